/- Which registers of each function may own rows; the functions for the evaluator without names. -/
import Derived.Test.YtficfeekkljoeaaNat2
import Derived.Test.YtficfeekkljoeaaCode
import Derived.KernelRfl
namespace Go.Proofs.Ytficfeekkljoeaa.VS
set_option linter.unusedVariables false
def lins : List (Nat × List Nat) := [(41, [2, 3, 21]), (207, [4, 6, 9, 11, 12, 13, 24, 39, 45, 46, 47, 49, 59, 60, 61, 62, 65, 66, 70, 71, 76, 77, 78, 79, 84]), (208, [4, 6, 11, 20, 50, 54, 55, 56, 60, 61]), (218, [4, 5, 11, 12, 49, 53, 54, 55, 56, 60, 61, 62, 63, 64]), (220, [4, 5, 11, 12, 13, 31, 33, 37, 38, 39, 40, 41]), (224, [4, 5, 8, 11, 12, 13, 29, 30, 32, 33, 34, 35, 36, 38])]
def linOf : List (Nat × List Nat) → Nat → List Nat
  | [], _ => []
  | (k, v) :: r, n => if n = k then v else linOf r n
noncomputable def XV : XEnv := ⟨E, linOf lins, lookN nats⟩
@[simp] theorem lin_30 : XV.lin 30 = [] := by kernel_rfl
theorem xcode_30 : XV.env.code 30 = some v30 := by kernel_rfl
@[simp] theorem lin_31 : XV.lin 31 = [] := by kernel_rfl
theorem xcode_31 : XV.env.code 31 = some v31 := by kernel_rfl
@[simp] theorem lin_41 : XV.lin 41 = [2, 3, 21] := by kernel_rfl
theorem xcode_41 : XV.env.code 41 = some v41 := by kernel_rfl
@[simp] theorem lin_43 : XV.lin 43 = [] := by kernel_rfl
theorem xcode_43 : XV.env.code 43 = some v43 := by kernel_rfl
@[simp] theorem lin_44 : XV.lin 44 = [] := by kernel_rfl
theorem xcode_44 : XV.env.code 44 = some v44 := by kernel_rfl
@[simp] theorem lin_45 : XV.lin 45 = [] := by kernel_rfl
theorem xcode_45 : XV.env.code 45 = some v45 := by kernel_rfl
@[simp] theorem lin_46 : XV.lin 46 = [] := by kernel_rfl
theorem xcode_46 : XV.env.code 46 = some v46 := by kernel_rfl
@[simp] theorem lin_47 : XV.lin 47 = [] := by kernel_rfl
theorem xcode_47 : XV.env.code 47 = some v47 := by kernel_rfl
@[simp] theorem lin_48 : XV.lin 48 = [] := by kernel_rfl
theorem xcode_48 : XV.env.code 48 = some v48 := by kernel_rfl
@[simp] theorem lin_50 : XV.lin 50 = [] := by kernel_rfl
theorem xcode_50 : XV.env.code 50 = some v50 := by kernel_rfl
@[simp] theorem lin_51 : XV.lin 51 = [] := by kernel_rfl
theorem xcode_51 : XV.env.code 51 = some v51 := by kernel_rfl
@[simp] theorem lin_207 : XV.lin 207 = [4, 6, 9, 11, 12, 13, 24, 39, 45, 46, 47, 49, 59, 60, 61, 62, 65, 66, 70, 71, 76, 77, 78, 79, 84] := by kernel_rfl
theorem xcode_207 : XV.env.code 207 = some v207 := by kernel_rfl
@[simp] theorem lin_208 : XV.lin 208 = [4, 6, 11, 20, 50, 54, 55, 56, 60, 61] := by kernel_rfl
theorem xcode_208 : XV.env.code 208 = some v208 := by kernel_rfl
@[simp] theorem lin_217 : XV.lin 217 = [] := by kernel_rfl
theorem xcode_217 : XV.env.code 217 = some v217 := by kernel_rfl
@[simp] theorem lin_218 : XV.lin 218 = [4, 5, 11, 12, 49, 53, 54, 55, 56, 60, 61, 62, 63, 64] := by kernel_rfl
theorem xcode_218 : XV.env.code 218 = some v218 := by kernel_rfl
@[simp] theorem lin_219 : XV.lin 219 = [] := by kernel_rfl
theorem xcode_219 : XV.env.code 219 = some v219 := by kernel_rfl
@[simp] theorem lin_220 : XV.lin 220 = [4, 5, 11, 12, 13, 31, 33, 37, 38, 39, 40, 41] := by kernel_rfl
theorem xcode_220 : XV.env.code 220 = some v220 := by kernel_rfl
@[simp] theorem lin_221 : XV.lin 221 = [] := by kernel_rfl
theorem xcode_221 : XV.env.code 221 = some v221 := by kernel_rfl
@[simp] theorem lin_222 : XV.lin 222 = [] := by kernel_rfl
theorem xcode_222 : XV.env.code 222 = some v222 := by kernel_rfl
@[simp] theorem lin_223 : XV.lin 223 = [] := by kernel_rfl
theorem xcode_223 : XV.env.code 223 = some v223 := by kernel_rfl
@[simp] theorem lin_224 : XV.lin 224 = [4, 5, 8, 11, 12, 13, 29, 30, 32, 33, 34, 35, 36, 38] := by kernel_rfl
theorem xcode_224 : XV.env.code 224 = some v224 := by kernel_rfl
@[simp] theorem lin_226 : XV.lin 226 = [] := by kernel_rfl
theorem xcode_226 : XV.env.code 226 = some v226 := by kernel_rfl
@[simp] theorem lin_227 : XV.lin 227 = [] := by kernel_rfl
theorem xcode_227 : XV.env.code 227 = some v227 := by kernel_rfl
@[simp] theorem lin_228 : XV.lin 228 = [] := by kernel_rfl
theorem xcode_228 : XV.env.code 228 = some v228 := by kernel_rfl
@[simp] theorem lin_230 : XV.lin 230 = [] := by kernel_rfl
theorem xcode_230 : XV.env.code 230 = some v230 := by kernel_rfl
@[simp] theorem lin_344 : XV.lin 344 = [] := by kernel_rfl
theorem xcode_344 : XV.env.code 344 = some v344 := by kernel_rfl
@[simp] theorem lin_345 : XV.lin 345 = [] := by kernel_rfl
theorem xcode_345 : XV.env.code 345 = some v345 := by kernel_rfl
@[simp] theorem lin_351 : XV.lin 351 = [] := by kernel_rfl
theorem xcode_351 : XV.env.code 351 = some v351 := by kernel_rfl
@[simp] theorem lin_352 : XV.lin 352 = [] := by kernel_rfl
theorem xcode_352 : XV.env.code 352 = some v352 := by kernel_rfl
@[simp] theorem lin_355 : XV.lin 355 = [] := by kernel_rfl
theorem xcode_355 : XV.env.code 355 = some v355 := by kernel_rfl
@[simp] theorem lin_356 : XV.lin 356 = [] := by kernel_rfl
theorem xcode_356 : XV.env.code 356 = some v356 := by kernel_rfl
theorem d44_6 (X : XEnv) (T : List Nat) (na : Nat) (live : List Nat) (r : List (Nat × AV)) (B : Boxs) : codeX X T (.region true na live r44_6) ⟨r, B⟩ = xEnd live (xOps (callX X) X.lin T true B.length [
  ⟨some 17, .move (.t 0), none, []⟩,
  ⟨some 18, .move (.t 5), none, []⟩,
  ⟨some 19, .indexAddr 1 none (.t 17) (.t 18), none, [0, 1]⟩,
  ⟨some 20, .load false 1 (.t 19), none, [2]⟩,
  ⟨some 21, .move (.t 1), none, []⟩,
  ⟨some 22, .move (.t 5), none, []⟩,
  ⟨some 23, .indexAddr 1 none (.t 21) (.t 22), none, [4, 5]⟩,
  ⟨some 24, .load false 1 (.t 23), none, [6]⟩,
  ⟨some 25, .bin .neq (.t 20) (.t 24), none, [3, 7]⟩] ⟨r, B ++ List.replicate na none⟩) := z_draw X T na live r44_6 (by kernel_rfl) r B
theorem d48_5 (X : XEnv) (T : List Nat) (na : Nat) (live : List Nat) (r : List (Nat × AV)) (B : Boxs) : codeX X T (.region true na live r48_5) ⟨r, B⟩ = xEnd live (xOps (callX X) X.lin T true B.length [
  ⟨some 15, .move (.t 7), none, []⟩,
  ⟨some 16, .move (.t 0), none, []⟩,
  ⟨some 17, .move (.t 8), none, []⟩,
  ⟨some 18, .indexAddr 1 none (.t 16) (.t 17), none, [1, 2]⟩,
  ⟨some 19, .load false 1 (.t 18), none, [3]⟩,
  ⟨some 20, .move (.t 1), none, []⟩,
  ⟨some 21, .move (.t 2), none, []⟩,
  ⟨some 22, .move (.t 8), none, []⟩,
  ⟨some 23, .bin .add (.t 21) (.t 22), none, [6, 7]⟩,
  ⟨some 24, .indexAddr 1 none (.t 20) (.t 23), none, [5, 8]⟩,
  ⟨some 25, .load false 1 (.t 24), none, [9]⟩,
  ⟨some 26, .bin .mul (.t 19) (.t 25), none, [4, 10]⟩,
  ⟨some 27, .bin .add (.t 15) (.t 26), none, [0, 11]⟩,
  ⟨some 7, .move (.t 27), none, [0, 1, 2, 3, 4, 5, 6, 7, 8, 9, 10, 11, 12]⟩] ⟨r, B ++ List.replicate na none⟩) := z_draw X T na live r48_5 (by kernel_rfl) r B
theorem d50_5 (X : XEnv) (T : List Nat) (na : Nat) (live : List Nat) (r : List (Nat × AV)) (B : Boxs) : codeX X T (.region true na live r50_5) ⟨r, B⟩ = xEnd live (xOps (callX X) X.lin T true B.length [
  ⟨some 19, .move (.t 0), none, []⟩,
  ⟨some 20, .move (.t 6), none, []⟩,
  ⟨some 21, .indexAddr 1 none (.t 19) (.t 20), none, [0, 1]⟩,
  ⟨some 22, .load false 1 (.t 21), none, [2]⟩,
  ⟨some 23, .move (.t 1), none, []⟩,
  ⟨some 24, .move (.t 6), none, []⟩,
  ⟨some 25, .indexAddr 1 none (.t 23) (.t 24), none, [4, 5]⟩,
  ⟨some 26, .load false 1 (.t 25), none, [6]⟩,
  ⟨some 27, .bin .gtr (.t 22) (.t 26), none, [3, 7]⟩] ⟨r, B ++ List.replicate na none⟩) := z_draw X T na live r50_5 (by kernel_rfl) r B
theorem d50_7 (X : XEnv) (T : List Nat) (na : Nat) (live : List Nat) (r : List (Nat × AV)) (B : Boxs) : codeX X T (.region true na live r50_7) ⟨r, B⟩ = xEnd live (xOps (callX X) X.lin T true B.length [
  ⟨some 28, .move (.t 5), none, []⟩,
  ⟨some 29, .move (.t 28), none, [0]⟩,
  ⟨some 30, .move (.t 0), some (29, false), [1]⟩,
  ⟨some 31, .move (.t 6), some (29, false), [1]⟩,
  ⟨some 32, .indexAddr 1 none (.t 30) (.t 31), some (29, false), [1, 2, 3]⟩,
  ⟨some 33, .load false 1 (.t 32), some (29, false), [1, 4]⟩,
  ⟨some 34, .move (.t 1), some (29, false), [1]⟩,
  ⟨some 35, .move (.t 6), some (29, false), [1]⟩,
  ⟨some 36, .indexAddr 1 none (.t 34) (.t 35), some (29, false), [1, 6, 7]⟩,
  ⟨some 37, .load false 1 (.t 36), some (29, false), [1, 8]⟩,
  ⟨some 38, .bin .lss (.t 33) (.t 37), some (29, false), [1, 5, 9]⟩,
  ⟨some 39, .pick (.t 29) (.c (.d (.bool true))) (.t 38), none, [1, 10]⟩,
  ⟨some 5, .move (.t 39), none, [0, 1, 2, 3, 4, 5, 6, 7, 8, 9, 10, 11]⟩] ⟨r, B ++ List.replicate na none⟩) := z_draw X T na live r50_7 (by kernel_rfl) r B
theorem d51_7 (X : XEnv) (T : List Nat) (na : Nat) (live : List Nat) (r : List (Nat × AV)) (B : Boxs) : codeX X T (.region true na live r51_7) ⟨r, B⟩ = xEnd live (xOps (callX X) X.lin T true B.length [
  ⟨some 17, .move (.t 0), none, []⟩,
  ⟨some 18, .move (.t 6), none, []⟩,
  ⟨some 19, .indexAddr 1 none (.t 17) (.t 18), none, [0, 1]⟩,
  ⟨some 20, .load false 1 (.t 19), none, [2]⟩,
  ⟨some 21, .move (.t 1), none, []⟩,
  ⟨some 22, .move (.t 6), none, []⟩,
  ⟨some 23, .indexAddr 1 none (.t 21) (.t 22), none, [4, 5]⟩,
  ⟨some 24, .load false 1 (.t 23), none, [6]⟩,
  ⟨some 25, .bin .gtr (.t 20) (.t 24), none, [3, 7]⟩] ⟨r, B ++ List.replicate na none⟩) := z_draw X T na live r51_7 (by kernel_rfl) r B
theorem d51_9 (X : XEnv) (T : List Nat) (na : Nat) (live : List Nat) (r : List (Nat × AV)) (B : Boxs) : codeX X T (.region true na live r51_9) ⟨r, B⟩ = xEnd live (xOps (callX X) X.lin T true B.length [
  ⟨some 26, .move (.t 5), none, []⟩,
  ⟨some 27, .move (.t 26), none, [0]⟩,
  ⟨some 28, .move (.t 0), some (27, false), [1]⟩,
  ⟨some 29, .move (.t 6), some (27, false), [1]⟩,
  ⟨some 30, .indexAddr 1 none (.t 28) (.t 29), some (27, false), [1, 2, 3]⟩,
  ⟨some 31, .load false 1 (.t 30), some (27, false), [1, 4]⟩,
  ⟨some 32, .move (.t 1), some (27, false), [1]⟩,
  ⟨some 33, .move (.t 6), some (27, false), [1]⟩,
  ⟨some 34, .indexAddr 1 none (.t 32) (.t 33), some (27, false), [1, 6, 7]⟩,
  ⟨some 35, .load false 1 (.t 34), some (27, false), [1, 8]⟩,
  ⟨some 36, .bin .lss (.t 31) (.t 35), some (27, false), [1, 5, 9]⟩,
  ⟨some 37, .pick (.t 27) (.c (.d (.bool true))) (.t 36), none, [1, 10]⟩,
  ⟨some 5, .move (.t 37), none, [0, 1, 2, 3, 4, 5, 6, 7, 8, 9, 10, 11]⟩] ⟨r, B ++ List.replicate na none⟩) := z_draw X T na live r51_9 (by kernel_rfl) r B
theorem d208_12 (X : XEnv) (T : List Nat) (na : Nat) (live : List Nat) (r : List (Nat × AV)) (B : Boxs) : codeX X T (.region true na live r208_12) ⟨r, B⟩ = xEnd live (xOps (callX X) X.lin T true B.length [
  ⟨some 39, .move (.t 7), none, []⟩,
  ⟨some 40, .move (.t 10), none, []⟩,
  ⟨some 41, .indexAddr 1 none (.t 39) (.t 40), none, [0, 1]⟩,
  ⟨some 42, .load false 1 (.t 41), none, [2]⟩,
  ⟨some 43, .move (.t 7), none, []⟩,
  ⟨some 44, .move (.t 8), none, []⟩,
  ⟨some 45, .indexAddr 1 none (.t 43) (.t 44), none, [4, 5]⟩,
  ⟨some 46, .load false 1 (.t 45), none, [6]⟩,
  ⟨some 47, .call true (.c (.fn 50 [])) [.t 42, .t 46], none, [3, 7]⟩,
  ⟨some 48, .not (.t 47), none, [8]⟩,
  ⟨some 9, .move (.t 48), none, [0, 1, 2, 3, 4, 5, 6, 7, 8, 9]⟩] ⟨r, B ++ List.replicate na none⟩) := z_draw X T na live r208_12 (by kernel_rfl) r B
theorem d351_6 (X : XEnv) (T : List Nat) (na : Nat) (live : List Nat) (r : List (Nat × AV)) (B : Boxs) : codeX X T (.region true na live r351_6) ⟨r, B⟩ = xEnd live (xOps (callX X) X.lin T true B.length [
  ⟨some 17, .move (.t 0), none, []⟩,
  ⟨some 18, .move (.t 5), none, []⟩,
  ⟨some 19, .indexAddr 1 none (.t 17) (.t 18), none, [0, 1]⟩,
  ⟨some 20, .load false 1 (.t 19), none, [2]⟩,
  ⟨some 21, .move (.t 1), none, []⟩,
  ⟨some 22, .move (.t 5), none, []⟩,
  ⟨some 23, .indexAddr 1 none (.t 21) (.t 22), none, [4, 5]⟩,
  ⟨some 24, .load false 1 (.t 23), none, [6]⟩,
  ⟨some 25, .call true (.c (.fn 44 [])) [.t 20, .t 24], none, [3, 7]⟩,
  ⟨some 26, .not (.t 25), none, [8]⟩] ⟨r, B ++ List.replicate na none⟩) := z_draw X T na live r351_6 (by kernel_rfl) r B
theorem look_in : ∀ {l : List (Nat × VFn)} {k : Nat} {v : VFn}, look l k = some v → (k, v) ∈ l
  | [], _, _, h => by simp [look] at h
  | (a, u) :: r, k, v, h => by
    simp only [look] at h
    split at h
    · rename_i hk
      simp at h; subst h; subst hk; simp
    · exact List.mem_cons_of_mem _ (look_in h)
theorem lin_all : codes.all (fun q => q.2.linOK (linOf lins q.1)) = true := by kernel_rfl
theorem spec_all : specs.all (fun q => q.2.pre.linOK (linOf lins q.1) && q.2.rest.linOK (linOf lins q.1) && linDistinct (linOf lins q.1) (q.2.results.flatMap VRes.vx) && (linOf lins q.1).all (fun j => decide (q.2.np ≤ j))) = true := by kernel_rfl
theorem nats_ref : ∀ q, q ∈ nats → NatRef q.2 (natV q.2) ∧ linOf lins q.1 = [] := List.forall_mem_cons.2 ⟨⟨concat_ref, by kernel_rfl⟩, List.forall_mem_nil _⟩
theorem xok : XOK XV := ⟨fun f vf h => List.all_eq_true.1 lin_all (f, vf) (look_in h), fun f g h => ⟨natV g, by show (lookN nats f).map natV = _; rw [show lookN nats f = some g from h]; rfl, (nats_ref (f, g) (lookN_mem h)).1, (nats_ref (f, g) (lookN_mem h)).2⟩, fun f h => by show (lookN nats f).map natV = _; rw [show lookN nats f = none from h]; rfl, fun f sf h => by
  have := List.all_eq_true.1 spec_all (f, sf) (lookS_mem h)
  simp only [Bool.and_eq_true] at this
  exact ⟨this.1.1.1, this.1.1.2, this.1.2, this.2⟩⟩
end Go.Proofs.Ytficfeekkljoeaa.VS
