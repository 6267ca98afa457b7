/- Which registers of each function may own rows; the functions for the evaluator without names. -/
import Derived.Test.YtcffalienbbohaaNat2
import Derived.Test.YtcffalienbbohaaCode
import Derived.KernelRfl
namespace Go.Proofs.Ytcffalienbbohaa.VS
set_option linter.unusedVariables false
def lins : List (Nat × List Nat) := [(41, [2, 3, 21]), (107, [2, 5, 6, 7]), (112, [4, 6, 10, 11, 12, 27, 31, 32, 34, 35, 36, 40]), (115, [3, 7, 25, 27, 28]), (121, [3, 6, 13, 16, 17]), (155, [0, 8]), (156, [28, 30]), (195, [2, 3, 4, 40, 46, 47, 48]), (201, [2, 4, 6, 8, 9, 11]), (202, [2, 5]), (203, [2, 3, 5, 12, 16, 17, 18]), (204, [2, 5, 9, 10]), (205, [19, 144, 154, 161, 162]), (206, [2, 3, 5, 9, 10, 12]), (207, [4, 6, 9, 11, 12, 13, 24, 39, 45, 46, 47, 49, 59, 60, 61, 62, 65, 71, 76, 77, 78, 79, 84]), (208, [4, 6, 11, 20, 50, 54, 55, 56, 60, 61]), (209, [2, 3, 4, 6, 7, 13, 15, 30, 31, 32, 39, 40, 41, 42, 44]), (210, [2, 3, 5, 6, 10, 11, 12, 13, 29, 31, 32, 33]), (211, [2, 5, 9, 16, 18, 19, 20, 21]), (212, [4, 5, 42]), (213, [4, 5, 9, 41, 43, 44, 45]), (218, [4, 5, 11, 12, 49, 53, 54, 55, 56, 60, 61, 62, 63, 64]), (220, [4, 5, 11, 12, 13, 31, 33, 37, 38, 39, 40, 41]), (224, [4, 5, 8, 11, 12, 13, 29, 30, 32, 33, 34, 35, 36, 38]), (225, [2, 6, 8, 24, 30, 31, 32, 33, 35]), (231, [2, 3, 5, 13, 17, 18, 21, 25, 26, 27]), (233, [2, 5]), (234, [2, 5, 9, 10]), (235, [2, 5, 9, 10]), (236, [2, 4, 6, 8, 9, 11]), (237, [2, 5]), (354, [9, 41, 56, 60, 61, 62])]
def linOf : List (Nat × List Nat) → Nat → List Nat
  | [], _ => []
  | (k, v) :: r, n => if n = k then v else linOf r n
noncomputable def XV : XEnv := ⟨E, linOf lins, lookN nats⟩
/-- The same without native functions. -/
noncomputable def XW : XEnv := ⟨⟨look codes, fun _ => none⟩, linOf lins, fun _ => none⟩
@[simp] theorem lin_13 : XV.lin 13 = [] := by kernel_rfl
theorem xcode_13 : XV.env.code 13 = some v13 := by kernel_rfl
@[simp] theorem lin_14 : XV.lin 14 = [] := by kernel_rfl
theorem xcode_14 : XV.env.code 14 = some v14 := by kernel_rfl
@[simp] theorem lin_18 : XV.lin 18 = [] := by kernel_rfl
theorem xcode_18 : XV.env.code 18 = some v18 := by kernel_rfl
@[simp] theorem lin_19 : XV.lin 19 = [] := by kernel_rfl
theorem xcode_19 : XV.env.code 19 = some v19 := by kernel_rfl
@[simp] theorem lin_27 : XV.lin 27 = [] := by kernel_rfl
theorem xcode_27 : XV.env.code 27 = some v27 := by kernel_rfl
@[simp] theorem lin_28 : XV.lin 28 = [] := by kernel_rfl
theorem xcode_28 : XV.env.code 28 = some v28 := by kernel_rfl
@[simp] theorem lin_29 : XV.lin 29 = [] := by kernel_rfl
theorem xcode_29 : XV.env.code 29 = some v29 := by kernel_rfl
@[simp] theorem lin_30 : XV.lin 30 = [] := by kernel_rfl
theorem xcode_30 : XV.env.code 30 = some v30 := by kernel_rfl
@[simp] theorem lin_31 : XV.lin 31 = [] := by kernel_rfl
theorem xcode_31 : XV.env.code 31 = some v31 := by kernel_rfl
@[simp] theorem lin_33 : XV.lin 33 = [] := by kernel_rfl
theorem xcode_33 : XV.env.code 33 = some v33 := by kernel_rfl
@[simp] theorem lin_34 : XV.lin 34 = [] := by kernel_rfl
theorem xcode_34 : XV.env.code 34 = some v34 := by kernel_rfl
@[simp] theorem lin_36 : XV.lin 36 = [] := by kernel_rfl
theorem xcode_36 : XV.env.code 36 = some v36 := by kernel_rfl
@[simp] theorem lin_37 : XV.lin 37 = [] := by kernel_rfl
theorem xcode_37 : XV.env.code 37 = some v37 := by kernel_rfl
@[simp] theorem lin_38 : XV.lin 38 = [] := by kernel_rfl
theorem xcode_38 : XV.env.code 38 = some v38 := by kernel_rfl
@[simp] theorem lin_39 : XV.lin 39 = [] := by kernel_rfl
theorem xcode_39 : XV.env.code 39 = some v39 := by kernel_rfl
@[simp] theorem lin_41 : XV.lin 41 = [2, 3, 21] := by kernel_rfl
theorem xcode_41 : XV.env.code 41 = some v41 := by kernel_rfl
@[simp] theorem lin_42 : XV.lin 42 = [] := by kernel_rfl
theorem xcode_42 : XV.env.code 42 = some v42 := by kernel_rfl
@[simp] theorem lin_43 : XV.lin 43 = [] := by kernel_rfl
theorem xcode_43 : XV.env.code 43 = some v43 := by kernel_rfl
@[simp] theorem lin_44 : XV.lin 44 = [] := by kernel_rfl
theorem xcode_44 : XV.env.code 44 = some v44 := by kernel_rfl
@[simp] theorem lin_45 : XV.lin 45 = [] := by kernel_rfl
theorem xcode_45 : XV.env.code 45 = some v45 := by kernel_rfl
@[simp] theorem lin_46 : XV.lin 46 = [] := by kernel_rfl
theorem xcode_46 : XV.env.code 46 = some v46 := by kernel_rfl
@[simp] theorem lin_47 : XV.lin 47 = [] := by kernel_rfl
theorem xcode_47 : XV.env.code 47 = some v47 := by kernel_rfl
@[simp] theorem lin_48 : XV.lin 48 = [] := by kernel_rfl
theorem xcode_48 : XV.env.code 48 = some v48 := by kernel_rfl
@[simp] theorem lin_50 : XV.lin 50 = [] := by kernel_rfl
theorem xcode_50 : XV.env.code 50 = some v50 := by kernel_rfl
@[simp] theorem lin_51 : XV.lin 51 = [] := by kernel_rfl
theorem xcode_51 : XV.env.code 51 = some v51 := by kernel_rfl
@[simp] theorem lin_53 : XV.lin 53 = [] := by kernel_rfl
theorem xcode_53 : XV.env.code 53 = some v53 := by kernel_rfl
@[simp] theorem lin_54 : XV.lin 54 = [] := by kernel_rfl
theorem xcode_54 : XV.env.code 54 = some v54 := by kernel_rfl
@[simp] theorem lin_55 : XV.lin 55 = [] := by kernel_rfl
theorem xcode_55 : XV.env.code 55 = some v55 := by kernel_rfl
@[simp] theorem lin_56 : XV.lin 56 = [] := by kernel_rfl
theorem xcode_56 : XV.env.code 56 = some v56 := by kernel_rfl
@[simp] theorem lin_59 : XV.lin 59 = [] := by kernel_rfl
theorem xcode_59 : XV.env.code 59 = some v59 := by kernel_rfl
@[simp] theorem lin_60 : XV.lin 60 = [] := by kernel_rfl
theorem xcode_60 : XV.env.code 60 = some v60 := by kernel_rfl
@[simp] theorem lin_61 : XV.lin 61 = [] := by kernel_rfl
theorem xcode_61 : XV.env.code 61 = some v61 := by kernel_rfl
@[simp] theorem lin_62 : XV.lin 62 = [] := by kernel_rfl
theorem xcode_62 : XV.env.code 62 = some v62 := by kernel_rfl
@[simp] theorem lin_77 : XV.lin 77 = [] := by kernel_rfl
theorem xcode_77 : XV.env.code 77 = some v77 := by kernel_rfl
@[simp] theorem lin_82 : XV.lin 82 = [] := by kernel_rfl
theorem xcode_82 : XV.env.code 82 = some v82 := by kernel_rfl
@[simp] theorem lin_106 : XV.lin 106 = [] := by kernel_rfl
theorem xcode_106 : XV.env.code 106 = some v106 := by kernel_rfl
@[simp] theorem lin_107 : XV.lin 107 = [2, 5, 6, 7] := by kernel_rfl
theorem xcode_107 : XV.env.code 107 = some v107 := by kernel_rfl
@[simp] theorem lin_108 : XV.lin 108 = [] := by kernel_rfl
theorem xcode_108 : XV.env.code 108 = some v108 := by kernel_rfl
@[simp] theorem lin_112 : XV.lin 112 = [4, 6, 10, 11, 12, 27, 31, 32, 34, 35, 36, 40] := by kernel_rfl
theorem xcode_112 : XV.env.code 112 = some v112 := by kernel_rfl
@[simp] theorem lin_114 : XV.lin 114 = [] := by kernel_rfl
theorem xcode_114 : XV.env.code 114 = some v114 := by kernel_rfl
@[simp] theorem lin_115 : XV.lin 115 = [3, 7, 25, 27, 28] := by kernel_rfl
theorem xcode_115 : XV.env.code 115 = some v115 := by kernel_rfl
@[simp] theorem lin_120 : XV.lin 120 = [] := by kernel_rfl
theorem xcode_120 : XV.env.code 120 = some v120 := by kernel_rfl
@[simp] theorem lin_121 : XV.lin 121 = [3, 6, 13, 16, 17] := by kernel_rfl
theorem xcode_121 : XV.env.code 121 = some v121 := by kernel_rfl
@[simp] theorem lin_133 : XV.lin 133 = [] := by kernel_rfl
theorem xcode_133 : XV.env.code 133 = some v133 := by kernel_rfl
@[simp] theorem lin_155 : XV.lin 155 = [0, 8] := by kernel_rfl
theorem xcode_155 : XV.env.code 155 = some v155 := by kernel_rfl
@[simp] theorem lin_156 : XV.lin 156 = [28, 30] := by kernel_rfl
theorem xcode_156 : XV.env.code 156 = some v156 := by kernel_rfl
@[simp] theorem lin_159 : XV.lin 159 = [] := by kernel_rfl
theorem xcode_159 : XV.env.code 159 = some v159 := by kernel_rfl
@[simp] theorem lin_160 : XV.lin 160 = [] := by kernel_rfl
theorem xcode_160 : XV.env.code 160 = some v160 := by kernel_rfl
@[simp] theorem lin_162 : XV.lin 162 = [] := by kernel_rfl
theorem xcode_162 : XV.env.code 162 = some v162 := by kernel_rfl
@[simp] theorem lin_165 : XV.lin 165 = [] := by kernel_rfl
theorem xcode_165 : XV.env.code 165 = some v165 := by kernel_rfl
@[simp] theorem lin_188 : XV.lin 188 = [] := by kernel_rfl
theorem xcode_188 : XV.env.code 188 = some v188 := by kernel_rfl
@[simp] theorem lin_195 : XV.lin 195 = [2, 3, 4, 40, 46, 47, 48] := by kernel_rfl
theorem xcode_195 : XV.env.code 195 = some v195 := by kernel_rfl
@[simp] theorem lin_196 : XV.lin 196 = [] := by kernel_rfl
theorem xcode_196 : XV.env.code 196 = some v196 := by kernel_rfl
@[simp] theorem lin_198 : XV.lin 198 = [] := by kernel_rfl
theorem xcode_198 : XV.env.code 198 = some v198 := by kernel_rfl
@[simp] theorem lin_199 : XV.lin 199 = [] := by kernel_rfl
theorem xcode_199 : XV.env.code 199 = some v199 := by kernel_rfl
@[simp] theorem lin_200 : XV.lin 200 = [] := by kernel_rfl
theorem xcode_200 : XV.env.code 200 = some v200 := by kernel_rfl
@[simp] theorem lin_201 : XV.lin 201 = [2, 4, 6, 8, 9, 11] := by kernel_rfl
theorem xcode_201 : XV.env.code 201 = some v201 := by kernel_rfl
@[simp] theorem lin_202 : XV.lin 202 = [2, 5] := by kernel_rfl
theorem xcode_202 : XV.env.code 202 = some v202 := by kernel_rfl
@[simp] theorem lin_203 : XV.lin 203 = [2, 3, 5, 12, 16, 17, 18] := by kernel_rfl
theorem xcode_203 : XV.env.code 203 = some v203 := by kernel_rfl
@[simp] theorem lin_204 : XV.lin 204 = [2, 5, 9, 10] := by kernel_rfl
theorem xcode_204 : XV.env.code 204 = some v204 := by kernel_rfl
@[simp] theorem lin_205 : XV.lin 205 = [19, 144, 154, 161, 162] := by kernel_rfl
theorem xcode_205 : XV.env.code 205 = some v205 := by kernel_rfl
@[simp] theorem lin_206 : XV.lin 206 = [2, 3, 5, 9, 10, 12] := by kernel_rfl
theorem xcode_206 : XV.env.code 206 = some v206 := by kernel_rfl
@[simp] theorem lin_207 : XV.lin 207 = [4, 6, 9, 11, 12, 13, 24, 39, 45, 46, 47, 49, 59, 60, 61, 62, 65, 71, 76, 77, 78, 79, 84] := by kernel_rfl
theorem xcode_207 : XV.env.code 207 = some v207 := by kernel_rfl
@[simp] theorem lin_208 : XV.lin 208 = [4, 6, 11, 20, 50, 54, 55, 56, 60, 61] := by kernel_rfl
theorem xcode_208 : XV.env.code 208 = some v208 := by kernel_rfl
@[simp] theorem lin_209 : XV.lin 209 = [2, 3, 4, 6, 7, 13, 15, 30, 31, 32, 39, 40, 41, 42, 44] := by kernel_rfl
theorem xcode_209 : XV.env.code 209 = some v209 := by kernel_rfl
@[simp] theorem lin_210 : XV.lin 210 = [2, 3, 5, 6, 10, 11, 12, 13, 29, 31, 32, 33] := by kernel_rfl
theorem xcode_210 : XV.env.code 210 = some v210 := by kernel_rfl
@[simp] theorem lin_211 : XV.lin 211 = [2, 5, 9, 16, 18, 19, 20, 21] := by kernel_rfl
theorem xcode_211 : XV.env.code 211 = some v211 := by kernel_rfl
@[simp] theorem lin_212 : XV.lin 212 = [4, 5, 42] := by kernel_rfl
theorem xcode_212 : XV.env.code 212 = some v212 := by kernel_rfl
@[simp] theorem lin_213 : XV.lin 213 = [4, 5, 9, 41, 43, 44, 45] := by kernel_rfl
theorem xcode_213 : XV.env.code 213 = some v213 := by kernel_rfl
@[simp] theorem lin_214 : XV.lin 214 = [] := by kernel_rfl
theorem xcode_214 : XV.env.code 214 = some v214 := by kernel_rfl
@[simp] theorem lin_215 : XV.lin 215 = [] := by kernel_rfl
theorem xcode_215 : XV.env.code 215 = some v215 := by kernel_rfl
@[simp] theorem lin_216 : XV.lin 216 = [] := by kernel_rfl
theorem xcode_216 : XV.env.code 216 = some v216 := by kernel_rfl
@[simp] theorem lin_217 : XV.lin 217 = [] := by kernel_rfl
theorem xcode_217 : XV.env.code 217 = some v217 := by kernel_rfl
@[simp] theorem lin_218 : XV.lin 218 = [4, 5, 11, 12, 49, 53, 54, 55, 56, 60, 61, 62, 63, 64] := by kernel_rfl
theorem xcode_218 : XV.env.code 218 = some v218 := by kernel_rfl
@[simp] theorem lin_219 : XV.lin 219 = [] := by kernel_rfl
theorem xcode_219 : XV.env.code 219 = some v219 := by kernel_rfl
@[simp] theorem lin_220 : XV.lin 220 = [4, 5, 11, 12, 13, 31, 33, 37, 38, 39, 40, 41] := by kernel_rfl
theorem xcode_220 : XV.env.code 220 = some v220 := by kernel_rfl
@[simp] theorem lin_221 : XV.lin 221 = [] := by kernel_rfl
theorem xcode_221 : XV.env.code 221 = some v221 := by kernel_rfl
@[simp] theorem lin_222 : XV.lin 222 = [] := by kernel_rfl
theorem xcode_222 : XV.env.code 222 = some v222 := by kernel_rfl
@[simp] theorem lin_223 : XV.lin 223 = [] := by kernel_rfl
theorem xcode_223 : XV.env.code 223 = some v223 := by kernel_rfl
@[simp] theorem lin_224 : XV.lin 224 = [4, 5, 8, 11, 12, 13, 29, 30, 32, 33, 34, 35, 36, 38] := by kernel_rfl
theorem xcode_224 : XV.env.code 224 = some v224 := by kernel_rfl
@[simp] theorem lin_225 : XV.lin 225 = [2, 6, 8, 24, 30, 31, 32, 33, 35] := by kernel_rfl
theorem xcode_225 : XV.env.code 225 = some v225 := by kernel_rfl
@[simp] theorem lin_226 : XV.lin 226 = [] := by kernel_rfl
theorem xcode_226 : XV.env.code 226 = some v226 := by kernel_rfl
@[simp] theorem lin_227 : XV.lin 227 = [] := by kernel_rfl
theorem xcode_227 : XV.env.code 227 = some v227 := by kernel_rfl
@[simp] theorem lin_228 : XV.lin 228 = [] := by kernel_rfl
theorem xcode_228 : XV.env.code 228 = some v228 := by kernel_rfl
@[simp] theorem lin_230 : XV.lin 230 = [] := by kernel_rfl
theorem xcode_230 : XV.env.code 230 = some v230 := by kernel_rfl
@[simp] theorem lin_231 : XV.lin 231 = [2, 3, 5, 13, 17, 18, 21, 25, 26, 27] := by kernel_rfl
theorem xcode_231 : XV.env.code 231 = some v231 := by kernel_rfl
@[simp] theorem lin_232 : XV.lin 232 = [] := by kernel_rfl
theorem xcode_232 : XV.env.code 232 = some v232 := by kernel_rfl
@[simp] theorem lin_233 : XV.lin 233 = [2, 5] := by kernel_rfl
theorem xcode_233 : XV.env.code 233 = some v233 := by kernel_rfl
@[simp] theorem lin_234 : XV.lin 234 = [2, 5, 9, 10] := by kernel_rfl
theorem xcode_234 : XV.env.code 234 = some v234 := by kernel_rfl
@[simp] theorem lin_235 : XV.lin 235 = [2, 5, 9, 10] := by kernel_rfl
theorem xcode_235 : XV.env.code 235 = some v235 := by kernel_rfl
@[simp] theorem lin_236 : XV.lin 236 = [2, 4, 6, 8, 9, 11] := by kernel_rfl
theorem xcode_236 : XV.env.code 236 = some v236 := by kernel_rfl
@[simp] theorem lin_237 : XV.lin 237 = [2, 5] := by kernel_rfl
theorem xcode_237 : XV.env.code 237 = some v237 := by kernel_rfl
@[simp] theorem lin_238 : XV.lin 238 = [] := by kernel_rfl
theorem xcode_238 : XV.env.code 238 = some v238 := by kernel_rfl
@[simp] theorem lin_344 : XV.lin 344 = [] := by kernel_rfl
theorem xcode_344 : XV.env.code 344 = some v344 := by kernel_rfl
@[simp] theorem lin_345 : XV.lin 345 = [] := by kernel_rfl
theorem xcode_345 : XV.env.code 345 = some v345 := by kernel_rfl
@[simp] theorem lin_351 : XV.lin 351 = [] := by kernel_rfl
theorem xcode_351 : XV.env.code 351 = some v351 := by kernel_rfl
@[simp] theorem lin_352 : XV.lin 352 = [] := by kernel_rfl
theorem xcode_352 : XV.env.code 352 = some v352 := by kernel_rfl
@[simp] theorem lin_354 : XV.lin 354 = [9, 41, 56, 60, 61, 62] := by kernel_rfl
theorem xcode_354 : XV.env.code 354 = some v354 := by kernel_rfl
@[simp] theorem lin_355 : XV.lin 355 = [] := by kernel_rfl
theorem xcode_355 : XV.env.code 355 = some v355 := by kernel_rfl
@[simp] theorem lin_356 : XV.lin 356 = [] := by kernel_rfl
theorem xcode_356 : XV.env.code 356 = some v356 := by kernel_rfl
theorem d44_6 (X : XEnv) (T : List Nat) (na : Nat) (live : List Nat) (r : List (Nat × AV)) (B : Boxs) : codeX X T (.region true na live r44_6) ⟨r, B⟩ = xEnd live (xOps (callX X) X.lin T true B.length [
  ⟨some 17, .move (.t 0), none, []⟩,
  ⟨some 18, .move (.t 5), none, []⟩,
  ⟨some 19, .indexAddr 1 none (.t 17) (.t 18), none, [0, 1]⟩,
  ⟨some 20, .load false 1 (.t 19), none, [2]⟩,
  ⟨some 21, .move (.t 1), none, []⟩,
  ⟨some 22, .move (.t 5), none, []⟩,
  ⟨some 23, .indexAddr 1 none (.t 21) (.t 22), none, [4, 5]⟩,
  ⟨some 24, .load false 1 (.t 23), none, [6]⟩,
  ⟨some 25, .bin .neq (.t 20) (.t 24), none, [3, 7]⟩] ⟨r, B ++ List.replicate na none⟩) := z_draw X T na live r44_6 (by kernel_rfl) r B
theorem d48_5 (X : XEnv) (T : List Nat) (na : Nat) (live : List Nat) (r : List (Nat × AV)) (B : Boxs) : codeX X T (.region true na live r48_5) ⟨r, B⟩ = xEnd live (xOps (callX X) X.lin T true B.length [
  ⟨some 15, .move (.t 7), none, []⟩,
  ⟨some 16, .move (.t 0), none, []⟩,
  ⟨some 17, .move (.t 8), none, []⟩,
  ⟨some 18, .indexAddr 1 none (.t 16) (.t 17), none, [1, 2]⟩,
  ⟨some 19, .load false 1 (.t 18), none, [3]⟩,
  ⟨some 20, .move (.t 1), none, []⟩,
  ⟨some 21, .move (.t 2), none, []⟩,
  ⟨some 22, .move (.t 8), none, []⟩,
  ⟨some 23, .bin .add (.t 21) (.t 22), none, [6, 7]⟩,
  ⟨some 24, .indexAddr 1 none (.t 20) (.t 23), none, [5, 8]⟩,
  ⟨some 25, .load false 1 (.t 24), none, [9]⟩,
  ⟨some 26, .bin .mul (.t 19) (.t 25), none, [4, 10]⟩,
  ⟨some 27, .bin .add (.t 15) (.t 26), none, [0, 11]⟩,
  ⟨some 7, .move (.t 27), none, [0, 1, 2, 3, 4, 5, 6, 7, 8, 9, 10, 11, 12]⟩] ⟨r, B ++ List.replicate na none⟩) := z_draw X T na live r48_5 (by kernel_rfl) r B
theorem d50_5 (X : XEnv) (T : List Nat) (na : Nat) (live : List Nat) (r : List (Nat × AV)) (B : Boxs) : codeX X T (.region true na live r50_5) ⟨r, B⟩ = xEnd live (xOps (callX X) X.lin T true B.length [
  ⟨some 19, .move (.t 0), none, []⟩,
  ⟨some 20, .move (.t 6), none, []⟩,
  ⟨some 21, .indexAddr 1 none (.t 19) (.t 20), none, [0, 1]⟩,
  ⟨some 22, .load false 1 (.t 21), none, [2]⟩,
  ⟨some 23, .move (.t 1), none, []⟩,
  ⟨some 24, .move (.t 6), none, []⟩,
  ⟨some 25, .indexAddr 1 none (.t 23) (.t 24), none, [4, 5]⟩,
  ⟨some 26, .load false 1 (.t 25), none, [6]⟩,
  ⟨some 27, .bin .gtr (.t 22) (.t 26), none, [3, 7]⟩] ⟨r, B ++ List.replicate na none⟩) := z_draw X T na live r50_5 (by kernel_rfl) r B
theorem d50_7 (X : XEnv) (T : List Nat) (na : Nat) (live : List Nat) (r : List (Nat × AV)) (B : Boxs) : codeX X T (.region true na live r50_7) ⟨r, B⟩ = xEnd live (xOps (callX X) X.lin T true B.length [
  ⟨some 28, .move (.t 5), none, []⟩,
  ⟨some 29, .move (.t 28), none, [0]⟩,
  ⟨some 30, .move (.t 0), some (29, false), [1]⟩,
  ⟨some 31, .move (.t 6), some (29, false), [1]⟩,
  ⟨some 32, .indexAddr 1 none (.t 30) (.t 31), some (29, false), [1, 2, 3]⟩,
  ⟨some 33, .load false 1 (.t 32), some (29, false), [1, 4]⟩,
  ⟨some 34, .move (.t 1), some (29, false), [1]⟩,
  ⟨some 35, .move (.t 6), some (29, false), [1]⟩,
  ⟨some 36, .indexAddr 1 none (.t 34) (.t 35), some (29, false), [1, 6, 7]⟩,
  ⟨some 37, .load false 1 (.t 36), some (29, false), [1, 8]⟩,
  ⟨some 38, .bin .lss (.t 33) (.t 37), some (29, false), [1, 5, 9]⟩,
  ⟨some 39, .pick (.t 29) (.c (.d (.bool true))) (.t 38), none, [1, 10]⟩,
  ⟨some 5, .move (.t 39), none, [0, 1, 2, 3, 4, 5, 6, 7, 8, 9, 10, 11]⟩] ⟨r, B ++ List.replicate na none⟩) := z_draw X T na live r50_7 (by kernel_rfl) r B
theorem d51_7 (X : XEnv) (T : List Nat) (na : Nat) (live : List Nat) (r : List (Nat × AV)) (B : Boxs) : codeX X T (.region true na live r51_7) ⟨r, B⟩ = xEnd live (xOps (callX X) X.lin T true B.length [
  ⟨some 17, .move (.t 0), none, []⟩,
  ⟨some 18, .move (.t 6), none, []⟩,
  ⟨some 19, .indexAddr 1 none (.t 17) (.t 18), none, [0, 1]⟩,
  ⟨some 20, .load false 1 (.t 19), none, [2]⟩,
  ⟨some 21, .move (.t 1), none, []⟩,
  ⟨some 22, .move (.t 6), none, []⟩,
  ⟨some 23, .indexAddr 1 none (.t 21) (.t 22), none, [4, 5]⟩,
  ⟨some 24, .load false 1 (.t 23), none, [6]⟩,
  ⟨some 25, .bin .gtr (.t 20) (.t 24), none, [3, 7]⟩] ⟨r, B ++ List.replicate na none⟩) := z_draw X T na live r51_7 (by kernel_rfl) r B
theorem d51_9 (X : XEnv) (T : List Nat) (na : Nat) (live : List Nat) (r : List (Nat × AV)) (B : Boxs) : codeX X T (.region true na live r51_9) ⟨r, B⟩ = xEnd live (xOps (callX X) X.lin T true B.length [
  ⟨some 26, .move (.t 5), none, []⟩,
  ⟨some 27, .move (.t 26), none, [0]⟩,
  ⟨some 28, .move (.t 0), some (27, false), [1]⟩,
  ⟨some 29, .move (.t 6), some (27, false), [1]⟩,
  ⟨some 30, .indexAddr 1 none (.t 28) (.t 29), some (27, false), [1, 2, 3]⟩,
  ⟨some 31, .load false 1 (.t 30), some (27, false), [1, 4]⟩,
  ⟨some 32, .move (.t 1), some (27, false), [1]⟩,
  ⟨some 33, .move (.t 6), some (27, false), [1]⟩,
  ⟨some 34, .indexAddr 1 none (.t 32) (.t 33), some (27, false), [1, 6, 7]⟩,
  ⟨some 35, .load false 1 (.t 34), some (27, false), [1, 8]⟩,
  ⟨some 36, .bin .lss (.t 31) (.t 35), some (27, false), [1, 5, 9]⟩,
  ⟨some 37, .pick (.t 27) (.c (.d (.bool true))) (.t 36), none, [1, 10]⟩,
  ⟨some 5, .move (.t 37), none, [0, 1, 2, 3, 4, 5, 6, 7, 8, 9, 10, 11]⟩] ⟨r, B ++ List.replicate na none⟩) := z_draw X T na live r51_9 (by kernel_rfl) r B
theorem d114_7 (X : XEnv) (T : List Nat) (na : Nat) (live : List Nat) (r : List (Nat × AV)) (B : Boxs) : codeX X T (.region true na live r114_7) ⟨r, B⟩ = xEnd live (xOps (callX X) X.lin T true B.length [
  ⟨some 15, .move (.t 3), none, []⟩,
  ⟨some 16, .move (.t 0), none, []⟩,
  ⟨some 17, .move (.t 4), none, []⟩,
  ⟨some 18, .indexAddr 3 none (.t 16) (.t 17), none, [1, 2]⟩,
  ⟨some 19, .fieldAddr 0 (.t 18), none, [3]⟩,
  ⟨some 20, .load false 1 (.t 19), none, [4]⟩,
  ⟨some 21, .bin .add (.t 15) (.t 20), none, [0, 5]⟩,
  ⟨some 22, .bin .add (.t 21) (.c (.d (.str ⟨#[47]⟩))), none, [6]⟩,
  ⟨some 23, .move (.t 0), none, []⟩,
  ⟨some 24, .move (.t 4), none, []⟩,
  ⟨some 25, .indexAddr 3 none (.t 23) (.t 24), none, [8, 9]⟩,
  ⟨some 26, .fieldAddr 1 (.t 25), none, [10]⟩,
  ⟨some 27, .load false 1 (.t 26), none, [11]⟩,
  ⟨some 28, .call true (.c (.fn 39 [])) [.t 27], none, [12]⟩,
  ⟨some 29, .bin .add (.t 22) (.t 28), none, [7, 13]⟩,
  ⟨some 3, .move (.t 29), none, [0, 1, 2, 3, 4, 5, 6, 7, 8, 9, 10, 11, 12, 13, 14]⟩] ⟨r, B ++ List.replicate na none⟩) := z_draw X T na live r114_7 (by kernel_rfl) r B
theorem d115_5 (X : XEnv) (T : List Nat) (na : Nat) (live : List Nat) (r : List (Nat × AV)) (B : Boxs) : codeX X T (.region true na live r115_5) ⟨r, B⟩ = xEnd live (xOps (callX X) X.lin T true B.length [
  ⟨some 14, .fieldAddr 0 (.t 5), none, []⟩,
  ⟨some 15, .load false 1 (.t 14), none, [0]⟩,
  ⟨some 16, .bin .add (.t 15) (.c (.d (.str ⟨#[47]⟩))), none, [1]⟩,
  ⟨some 17, .fieldAddr 1 (.t 5), none, []⟩,
  ⟨some 18, .load false 1 (.t 17), none, [3]⟩,
  ⟨some 19, .call true (.c (.fn 38 [])) [.t 18], none, [4]⟩,
  ⟨some 20, .bin .add (.t 16) (.t 19), none, [2, 5]⟩,
  ⟨some 6, .move (.t 20), none, [0, 1, 2, 3, 4, 5, 6]⟩] ⟨r, B ++ List.replicate na none⟩) := z_draw X T na live r115_5 (by kernel_rfl) r B
theorem d165_2 (X : XEnv) (T : List Nat) (na : Nat) (live : List Nat) (r : List (Nat × AV)) (B : Boxs) : codeX X T (.region true na live r165_2) ⟨r, B⟩ = xEnd live (xOps (callX X) X.lin T true B.length [
  ⟨some 13, .move (.t 0), none, []⟩,
  ⟨some 14, .nilCheck (.t 13), none, [0]⟩,
  ⟨some 15, .fieldAddr 2 (.t 14), none, [1]⟩,
  ⟨some 16, .load false 1 (.t 15), none, [2]⟩,
  ⟨some 17, .bin .shr (.t 16) (.c (.d (.int .u64 33))), none, [3]⟩,
  ⟨some 18, .move (.t 0), none, []⟩,
  ⟨some 19, .nilCheck (.t 18), none, [5]⟩,
  ⟨some 20, .fieldAddr 2 (.t 19), none, [6]⟩,
  ⟨some 21, .load false 1 (.t 20), none, [7]⟩,
  ⟨some 22, .bin .shr (.t 21) (.c (.d (.int .u64 45))), none, [8]⟩,
  ⟨some 23, .bin .xor (.t 17) (.t 22), none, [4, 9]⟩,
  ⟨some 24, .bin .and (.t 23) (.c (.d (.int .i64 255))), none, [10]⟩,
  ⟨some 3, .move (.t 24), none, [0, 1, 2, 3, 4, 5, 6, 7, 8, 9, 10, 11]⟩] ⟨r, B ++ List.replicate na none⟩) := z_draw X T na live r165_2 (by kernel_rfl) r B
theorem d165_3 (X : XEnv) (T : List Nat) (na : Nat) (live : List Nat) (r : List (Nat × AV)) (B : Boxs) : codeX X T (.region true na live r165_3) ⟨r, B⟩ = xEnd live (xOps (callX X) X.lin T true B.length [
  ⟨some 25, .move (.t 0), none, []⟩,
  ⟨some 26, .nilCheck (.t 25), none, [0]⟩,
  ⟨some 27, .fieldAddr 1 (.t 26), none, [1]⟩,
  ⟨some 28, .load false 1 (.t 27), none, [2]⟩,
  ⟨some 29, .move (.t 0), none, []⟩,
  ⟨some 30, .nilCheck (.t 29), none, [4]⟩,
  ⟨some 31, .fieldAddr 0 (.t 30), none, [5]⟩,
  ⟨some 32, .load false 1 (.t 31), none, [6]⟩,
  ⟨some 33, .len false (.t 32), none, [7]⟩,
  ⟨some 34, .bin .lss (.t 28) (.t 33), none, [3, 8]⟩] ⟨r, B ++ List.replicate na none⟩) := z_draw X T na live r165_3 (by kernel_rfl) r B
theorem d165_4 (X : XEnv) (T : List Nat) (na : Nat) (live : List Nat) (r : List (Nat × AV)) (B : Boxs) : codeX X T (.region true na live r165_4) ⟨r, B⟩ = xEnd live (xOps (callX X) X.lin T true B.length [
  ⟨some 35, .move (.t 3), none, []⟩,
  ⟨some 36, .move (.t 0), none, []⟩,
  ⟨some 37, .nilCheck (.t 36), none, [1]⟩,
  ⟨some 38, .fieldAddr 0 (.t 37), none, [2]⟩,
  ⟨some 39, .load false 1 (.t 38), none, [3]⟩,
  ⟨some 40, .move (.t 0), none, []⟩,
  ⟨some 41, .nilCheck (.t 40), none, [5]⟩,
  ⟨some 42, .fieldAddr 1 (.t 41), none, [6]⟩,
  ⟨some 43, .load false 1 (.t 42), none, [7]⟩,
  ⟨some 44, .indexAddr 1 none (.t 39) (.t 43), none, [4, 8]⟩,
  ⟨some 45, .load false 1 (.t 44), none, [9]⟩,
  ⟨some 46, .conv (.kind .i64) (.t 45), none, [10]⟩,
  ⟨some 47, .bin .add (.t 35) (.t 46), none, [0, 11]⟩,
  ⟨some 48, .bin .and (.t 47) (.c (.d (.int .i64 255))), none, [12]⟩,
  ⟨some 3, .move (.t 48), none, [0, 1, 2, 3, 4, 5, 6, 7, 8, 9, 10, 11, 12, 13]⟩] ⟨r, B ++ List.replicate na none⟩) := z_draw X T na live r165_4 (by kernel_rfl) r B
theorem d188_6 (X : XEnv) (T : List Nat) (na : Nat) (live : List Nat) (r : List (Nat × AV)) (B : Boxs) : codeX X T (.region true na live r188_6) ⟨r, B⟩ = xEnd live (xOps (callX X) X.lin T true B.length [
  ⟨some 17, .move (.t 0), none, []⟩,
  ⟨some 18, .move (.t 5), none, []⟩,
  ⟨some 19, .indexAddr 1 none (.t 17) (.t 18), none, [0, 1]⟩,
  ⟨some 20, .load false 1 (.t 19), none, [2]⟩,
  ⟨some 21, .move (.t 1), none, []⟩,
  ⟨some 22, .move (.t 5), none, []⟩,
  ⟨some 23, .indexAddr 1 none (.t 21) (.t 22), none, [4, 5]⟩,
  ⟨some 24, .load false 1 (.t 23), none, [6]⟩,
  ⟨some 25, .bin .neq (.t 20) (.t 24), none, [3, 7]⟩] ⟨r, B ++ List.replicate na none⟩) := z_draw X T na live r188_6 (by kernel_rfl) r B
theorem d205_14 (X : XEnv) (T : List Nat) (na : Nat) (live : List Nat) (r : List (Nat × AV)) (B : Boxs) : codeX X T (.region true na live r205_14) ⟨r, B⟩ = xEnd live (xOps (callX X) X.lin T true B.length [
  ⟨some 102, .move (.t 5), none, []⟩,
  ⟨some 103, .move (.t 16), none, []⟩,
  ⟨some 104, .indexAddr 1 none (.t 102) (.t 103), none, [0, 1]⟩,
  ⟨some 105, .load false 1 (.t 104), none, [2]⟩,
  ⟨some 106, .move (.t 7), none, []⟩,
  ⟨some 107, .move (.t 16), none, []⟩,
  ⟨some 108, .indexAddr 1 none (.t 106) (.t 107), none, [4, 5]⟩,
  ⟨some 109, .load false 1 (.t 108), none, [6]⟩,
  ⟨some 110, .call true (.c (.fn 188 [])) [.t 105, .t 109], none, [3, 7]⟩,
  ⟨some 111, .not (.t 110), none, [8]⟩,
  ⟨some 112, .move (.t 111), none, [8, 9]⟩,
  ⟨some 113, .move (.t 3), some (112, false), [10]⟩,
  ⟨some 114, .move (.t 4), some (112, false), [10]⟩,
  ⟨some 115, .move (.t 5), some (112, false), [10]⟩,
  ⟨some 116, .move (.t 16), some (112, false), [10]⟩,
  ⟨some 117, .indexAddr 1 none (.t 115) (.t 116), some (112, false), [10, 13, 14]⟩,
  ⟨some 118, .load false 1 (.t 117), some (112, false), [10, 15]⟩,
  ⟨some 119, .call true (.c (.fn 43 [])) [.t 113, .t 114, .t 118], some (112, false), [10, 11, 12, 16]⟩,
  ⟨some 120, .not (.t 119), some (112, false), [10, 17]⟩,
  ⟨some 121, .pick (.t 112) (.c (.d (.bool true))) (.t 120), none, [10, 18]⟩] ⟨r, B ++ List.replicate na none⟩) := z_draw X T na live r205_14 (by kernel_rfl) r B
theorem d205_19 (X : XEnv) (T : List Nat) (na : Nat) (live : List Nat) (r : List (Nat × AV)) (B : Boxs) : codeX X T (.region true na live r205_19) ⟨r, B⟩ = xEnd live (xOps (callX X) X.lin T true B.length [
  ⟨some 128, .move (.t 5), none, []⟩,
  ⟨some 129, .move (.t 17), none, []⟩,
  ⟨some 130, .indexAddr 1 none (.t 128) (.t 129), none, [0, 1]⟩,
  ⟨some 131, .load false 1 (.t 130), none, [2]⟩,
  ⟨some 132, .move (.t 5), none, []⟩,
  ⟨some 133, .move (.t 16), none, []⟩,
  ⟨some 134, .indexAddr 1 none (.t 132) (.t 133), none, [4, 5]⟩,
  ⟨some 135, .load false 1 (.t 134), none, [6]⟩,
  ⟨some 136, .call true (.c (.fn 51 [])) [.t 131, .t 135], none, [3, 7]⟩] ⟨r, B ++ List.replicate na none⟩) := z_draw X T na live r205_19 (by kernel_rfl) r B
theorem d208_12 (X : XEnv) (T : List Nat) (na : Nat) (live : List Nat) (r : List (Nat × AV)) (B : Boxs) : codeX X T (.region true na live r208_12) ⟨r, B⟩ = xEnd live (xOps (callX X) X.lin T true B.length [
  ⟨some 39, .move (.t 7), none, []⟩,
  ⟨some 40, .move (.t 10), none, []⟩,
  ⟨some 41, .indexAddr 1 none (.t 39) (.t 40), none, [0, 1]⟩,
  ⟨some 42, .load false 1 (.t 41), none, [2]⟩,
  ⟨some 43, .move (.t 7), none, []⟩,
  ⟨some 44, .move (.t 8), none, []⟩,
  ⟨some 45, .indexAddr 1 none (.t 43) (.t 44), none, [4, 5]⟩,
  ⟨some 46, .load false 1 (.t 45), none, [6]⟩,
  ⟨some 47, .call true (.c (.fn 50 [])) [.t 42, .t 46], none, [3, 7]⟩,
  ⟨some 48, .not (.t 47), none, [8]⟩,
  ⟨some 9, .move (.t 48), none, [0, 1, 2, 3, 4, 5, 6, 7, 8, 9]⟩] ⟨r, B ++ List.replicate na none⟩) := z_draw X T na live r208_12 (by kernel_rfl) r B
theorem d212_10 (X : XEnv) (T : List Nat) (na : Nat) (live : List Nat) (r : List (Nat × AV)) (B : Boxs) : codeX X T (.region true na live r212_10) ⟨r, B⟩ = xEnd live (xOps (callX X) X.lin T true B.length [
  ⟨some 31, .move (.t 5), none, []⟩,
  ⟨some 32, .move (.t 8), none, []⟩,
  ⟨some 33, .indexAddr 1 none (.t 31) (.t 32), none, [0, 1]⟩,
  ⟨some 34, .load false 1 (.t 33), none, [2]⟩,
  ⟨some 35, .move (.t 7), none, []⟩,
  ⟨some 36, .move (.t 8), none, []⟩,
  ⟨some 37, .indexAddr 1 none (.t 35) (.t 36), none, [4, 5]⟩,
  ⟨some 38, .load false 1 (.t 37), none, [6]⟩,
  ⟨some 39, .bin .add (.t 34) (.t 38), none, [3, 7]⟩,
  ⟨some 40, .indexAddr 1 none (.t 31) (.t 32), none, [0, 1, 2, 3, 4, 5, 6, 7, 8]⟩,
  ⟨none, .store false 1 (.t 40) (.t 39), none, [0, 1, 2, 3, 4, 5, 6, 7, 8, 9]⟩] ⟨r, B ++ List.replicate na none⟩) := z_draw X T na live r212_10 (by kernel_rfl) r B
theorem d232_13 (X : XEnv) (T : List Nat) (na : Nat) (live : List Nat) (r : List (Nat × AV)) (B : Boxs) : codeX X T (.region true na live r232_13) ⟨r, B⟩ = xEnd live (xOps (callX X) X.lin T true B.length [
  ⟨some 92, .move (.t 3), none, []⟩,
  ⟨some 93, .move (.t 3), none, []⟩,
  ⟨some 94, .move (.t 12), none, []⟩,
  ⟨some 95, .indexAddr 3 none (.t 93) (.t 94), none, [1, 2]⟩,
  ⟨some 96, .fieldAddr 0 (.t 95), none, [3]⟩,
  ⟨some 97, .load false 1 (.t 96), none, [4]⟩,
  ⟨some 98, .call true (.c (.fn 14 [])) [.t 92, .t 97], none, [0, 5]⟩,
  ⟨some 99, .move (.t 12), none, []⟩,
  ⟨some 100, .bin .neq (.t 98) (.t 99), none, [6, 7]⟩,
  ⟨some 101, .move (.t 100), none, [6, 8]⟩,
  ⟨some 102, .move (.t 3), some (101, false), [9]⟩,
  ⟨some 103, .move (.t 12), some (101, false), [9]⟩,
  ⟨some 104, .call true (.c (.fn 28 [])) [.t 102, .t 103], some (101, false), [9, 10, 11]⟩,
  ⟨some 105, .move (.t 3), some (101, false), [9]⟩,
  ⟨some 106, .move (.t 12), some (101, false), [9]⟩,
  ⟨some 107, .indexAddr 3 none (.t 105) (.t 106), some (101, false), [9, 13, 14]⟩,
  ⟨some 108, .fieldAddr 1 (.t 107), some (101, false), [9, 15]⟩,
  ⟨some 109, .load false 1 (.t 108), some (101, false), [9, 16]⟩,
  ⟨some 110, .bin .neq (.t 104) (.t 109), some (101, false), [9, 12, 17]⟩,
  ⟨some 111, .pick (.t 101) (.c (.d (.bool true))) (.t 110), none, [9, 18]⟩] ⟨r, B ++ List.replicate na none⟩) := z_draw X T na live r232_13 (by kernel_rfl) r B
theorem d351_6 (X : XEnv) (T : List Nat) (na : Nat) (live : List Nat) (r : List (Nat × AV)) (B : Boxs) : codeX X T (.region true na live r351_6) ⟨r, B⟩ = xEnd live (xOps (callX X) X.lin T true B.length [
  ⟨some 17, .move (.t 0), none, []⟩,
  ⟨some 18, .move (.t 5), none, []⟩,
  ⟨some 19, .indexAddr 1 none (.t 17) (.t 18), none, [0, 1]⟩,
  ⟨some 20, .load false 1 (.t 19), none, [2]⟩,
  ⟨some 21, .move (.t 1), none, []⟩,
  ⟨some 22, .move (.t 5), none, []⟩,
  ⟨some 23, .indexAddr 1 none (.t 21) (.t 22), none, [4, 5]⟩,
  ⟨some 24, .load false 1 (.t 23), none, [6]⟩,
  ⟨some 25, .call true (.c (.fn 44 [])) [.t 20, .t 24], none, [3, 7]⟩,
  ⟨some 26, .not (.t 25), none, [8]⟩] ⟨r, B ++ List.replicate na none⟩) := z_draw X T na live r351_6 (by kernel_rfl) r B
theorem look_in : ∀ {l : List (Nat × VFn)} {k : Nat} {v : VFn}, look l k = some v → (k, v) ∈ l
  | [], _, _, h => by simp [look] at h
  | (a, u) :: r, k, v, h => by
    simp only [look] at h
    split at h
    · rename_i hk
      simp at h; subst h; subst hk; simp
    · exact List.mem_cons_of_mem _ (look_in h)
theorem lin_all : codes.all (fun q => q.2.linOK (linOf lins q.1)) = true := by kernel_rfl
theorem xokW : XOK XW := ⟨fun f vf h => List.all_eq_true.1 lin_all (f, vf) (look_in h), fun f g h => by exact absurd h (by simp [XW]), fun f h => rfl⟩
theorem nats_ref : ∀ q, q ∈ nats → NatRef q.2 (natV q.2) ∧ linOf lins q.1 = [] := List.forall_mem_cons.2 ⟨⟨numAdd_ref, by kernel_rfl⟩, List.forall_mem_cons.2 ⟨⟨join_ref, by kernel_rfl⟩, List.forall_mem_nil _⟩⟩
theorem xok : XOK XV := ⟨fun f vf h => List.all_eq_true.1 lin_all (f, vf) (look_in h), fun f g h => ⟨natV g, by show (lookN nats f).map natV = _; rw [show lookN nats f = some g from h]; rfl, (nats_ref (f, g) (lookN_mem h)).1, (nats_ref (f, g) (lookN_mem h)).2⟩, fun f h => by show (lookN nats f).map natV = _; rw [show lookN nats f = none from h]; rfl⟩
end Go.Proofs.Ytcffalienbbohaa.VS
