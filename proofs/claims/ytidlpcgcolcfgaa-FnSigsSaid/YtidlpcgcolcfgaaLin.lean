/- Which registers of each function may own rows; the functions for the evaluator without names. -/
import Derived.Test.YtidlpcgcolcfgaaNat2
import Derived.Test.YtidlpcgcolcfgaaCode
import Derived.KernelRfl
namespace Go.Proofs.Ytidlpcgcolcfgaa.VS
set_option linter.unusedVariables false
def lins : List (Nat × List Nat) := [(115, [3, 7, 25, 27, 28]), (155, [0, 8]), (156, [28, 30]), (195, [2, 3, 4, 40, 46, 47, 48]), (233, [2, 5]), (234, [2, 5, 9, 10]), (235, [2, 5, 9, 10]), (236, [2, 4, 6, 8, 9, 11]), (237, [2, 5])]
def linOf : List (Nat × List Nat) → Nat → List Nat
  | [], _ => []
  | (k, v) :: r, n => if n = k then v else linOf r n
noncomputable def XV : XEnv := ⟨E, linOf lins, lookN nats⟩
@[simp] theorem lin_13 : XV.lin 13 = [] := by kernel_rfl
theorem xcode_13 : XV.env.code 13 = some v13 := by kernel_rfl
@[simp] theorem lin_14 : XV.lin 14 = [] := by kernel_rfl
theorem xcode_14 : XV.env.code 14 = some v14 := by kernel_rfl
@[simp] theorem lin_18 : XV.lin 18 = [] := by kernel_rfl
theorem xcode_18 : XV.env.code 18 = some v18 := by kernel_rfl
@[simp] theorem lin_19 : XV.lin 19 = [] := by kernel_rfl
theorem xcode_19 : XV.env.code 19 = some v19 := by kernel_rfl
@[simp] theorem lin_27 : XV.lin 27 = [] := by kernel_rfl
theorem xcode_27 : XV.env.code 27 = some v27 := by kernel_rfl
@[simp] theorem lin_28 : XV.lin 28 = [] := by kernel_rfl
theorem xcode_28 : XV.env.code 28 = some v28 := by kernel_rfl
@[simp] theorem lin_29 : XV.lin 29 = [] := by kernel_rfl
theorem xcode_29 : XV.env.code 29 = some v29 := by kernel_rfl
@[simp] theorem lin_30 : XV.lin 30 = [] := by kernel_rfl
theorem xcode_30 : XV.env.code 30 = some v30 := by kernel_rfl
@[simp] theorem lin_31 : XV.lin 31 = [] := by kernel_rfl
theorem xcode_31 : XV.env.code 31 = some v31 := by kernel_rfl
@[simp] theorem lin_33 : XV.lin 33 = [] := by kernel_rfl
theorem xcode_33 : XV.env.code 33 = some v33 := by kernel_rfl
@[simp] theorem lin_34 : XV.lin 34 = [] := by kernel_rfl
theorem xcode_34 : XV.env.code 34 = some v34 := by kernel_rfl
@[simp] theorem lin_38 : XV.lin 38 = [] := by kernel_rfl
theorem xcode_38 : XV.env.code 38 = some v38 := by kernel_rfl
@[simp] theorem lin_39 : XV.lin 39 = [] := by kernel_rfl
theorem xcode_39 : XV.env.code 39 = some v39 := by kernel_rfl
@[simp] theorem lin_59 : XV.lin 59 = [] := by kernel_rfl
theorem xcode_59 : XV.env.code 59 = some v59 := by kernel_rfl
@[simp] theorem lin_60 : XV.lin 60 = [] := by kernel_rfl
theorem xcode_60 : XV.env.code 60 = some v60 := by kernel_rfl
@[simp] theorem lin_61 : XV.lin 61 = [] := by kernel_rfl
theorem xcode_61 : XV.env.code 61 = some v61 := by kernel_rfl
@[simp] theorem lin_62 : XV.lin 62 = [] := by kernel_rfl
theorem xcode_62 : XV.env.code 62 = some v62 := by kernel_rfl
@[simp] theorem lin_77 : XV.lin 77 = [] := by kernel_rfl
theorem xcode_77 : XV.env.code 77 = some v77 := by kernel_rfl
@[simp] theorem lin_82 : XV.lin 82 = [] := by kernel_rfl
theorem xcode_82 : XV.env.code 82 = some v82 := by kernel_rfl
@[simp] theorem lin_114 : XV.lin 114 = [] := by kernel_rfl
theorem xcode_114 : XV.env.code 114 = some v114 := by kernel_rfl
@[simp] theorem lin_115 : XV.lin 115 = [3, 7, 25, 27, 28] := by kernel_rfl
theorem xcode_115 : XV.env.code 115 = some v115 := by kernel_rfl
@[simp] theorem lin_133 : XV.lin 133 = [] := by kernel_rfl
theorem xcode_133 : XV.env.code 133 = some v133 := by kernel_rfl
@[simp] theorem lin_155 : XV.lin 155 = [0, 8] := by kernel_rfl
theorem xcode_155 : XV.env.code 155 = some v155 := by kernel_rfl
@[simp] theorem lin_156 : XV.lin 156 = [28, 30] := by kernel_rfl
theorem xcode_156 : XV.env.code 156 = some v156 := by kernel_rfl
@[simp] theorem lin_159 : XV.lin 159 = [] := by kernel_rfl
theorem xcode_159 : XV.env.code 159 = some v159 := by kernel_rfl
@[simp] theorem lin_160 : XV.lin 160 = [] := by kernel_rfl
theorem xcode_160 : XV.env.code 160 = some v160 := by kernel_rfl
@[simp] theorem lin_165 : XV.lin 165 = [] := by kernel_rfl
theorem xcode_165 : XV.env.code 165 = some v165 := by kernel_rfl
@[simp] theorem lin_195 : XV.lin 195 = [2, 3, 4, 40, 46, 47, 48] := by kernel_rfl
theorem xcode_195 : XV.env.code 195 = some v195 := by kernel_rfl
@[simp] theorem lin_196 : XV.lin 196 = [] := by kernel_rfl
theorem xcode_196 : XV.env.code 196 = some v196 := by kernel_rfl
@[simp] theorem lin_232 : XV.lin 232 = [] := by kernel_rfl
theorem xcode_232 : XV.env.code 232 = some v232 := by kernel_rfl
@[simp] theorem lin_233 : XV.lin 233 = [2, 5] := by kernel_rfl
theorem xcode_233 : XV.env.code 233 = some v233 := by kernel_rfl
@[simp] theorem lin_234 : XV.lin 234 = [2, 5, 9, 10] := by kernel_rfl
theorem xcode_234 : XV.env.code 234 = some v234 := by kernel_rfl
@[simp] theorem lin_235 : XV.lin 235 = [2, 5, 9, 10] := by kernel_rfl
theorem xcode_235 : XV.env.code 235 = some v235 := by kernel_rfl
@[simp] theorem lin_236 : XV.lin 236 = [2, 4, 6, 8, 9, 11] := by kernel_rfl
theorem xcode_236 : XV.env.code 236 = some v236 := by kernel_rfl
@[simp] theorem lin_237 : XV.lin 237 = [2, 5] := by kernel_rfl
theorem xcode_237 : XV.env.code 237 = some v237 := by kernel_rfl
@[simp] theorem lin_238 : XV.lin 238 = [] := by kernel_rfl
theorem xcode_238 : XV.env.code 238 = some v238 := by kernel_rfl
theorem d114_7 (X : XEnv) (T : List Nat) (na : Nat) (live : List Nat) (r : List (Nat × AV)) (B : Boxs) : codeX X T (.region true na live r114_7) ⟨r, B⟩ = xEnd live (xOps (callX X) X.lin T true B.length [
  ⟨some 15, .move (.t 3), none, []⟩,
  ⟨some 16, .move (.t 0), none, []⟩,
  ⟨some 17, .move (.t 4), none, []⟩,
  ⟨some 18, .indexAddr 3 none (.t 16) (.t 17), none, [1, 2]⟩,
  ⟨some 19, .fieldAddr 0 (.t 18), none, [3]⟩,
  ⟨some 20, .load false 1 (.t 19), none, [4]⟩,
  ⟨some 21, .bin .add (.t 15) (.t 20), none, [0, 5]⟩,
  ⟨some 22, .bin .add (.t 21) (.c (.d (.str ⟨#[47]⟩))), none, [6]⟩,
  ⟨some 23, .move (.t 0), none, []⟩,
  ⟨some 24, .move (.t 4), none, []⟩,
  ⟨some 25, .indexAddr 3 none (.t 23) (.t 24), none, [8, 9]⟩,
  ⟨some 26, .fieldAddr 1 (.t 25), none, [10]⟩,
  ⟨some 27, .load false 1 (.t 26), none, [11]⟩,
  ⟨some 28, .call true (.c (.fn 39 [])) [.t 27], none, [12]⟩,
  ⟨some 29, .bin .add (.t 22) (.t 28), none, [7, 13]⟩,
  ⟨some 3, .move (.t 29), none, [0, 1, 2, 3, 4, 5, 6, 7, 8, 9, 10, 11, 12, 13, 14]⟩] ⟨r, B ++ List.replicate na none⟩) := z_draw X T na live r114_7 (by kernel_rfl) r B
theorem d115_5 (X : XEnv) (T : List Nat) (na : Nat) (live : List Nat) (r : List (Nat × AV)) (B : Boxs) : codeX X T (.region true na live r115_5) ⟨r, B⟩ = xEnd live (xOps (callX X) X.lin T true B.length [
  ⟨some 14, .fieldAddr 0 (.t 5), none, []⟩,
  ⟨some 15, .load false 1 (.t 14), none, [0]⟩,
  ⟨some 16, .bin .add (.t 15) (.c (.d (.str ⟨#[47]⟩))), none, [1]⟩,
  ⟨some 17, .fieldAddr 1 (.t 5), none, []⟩,
  ⟨some 18, .load false 1 (.t 17), none, [3]⟩,
  ⟨some 19, .call true (.c (.fn 38 [])) [.t 18], none, [4]⟩,
  ⟨some 20, .bin .add (.t 16) (.t 19), none, [2, 5]⟩,
  ⟨some 6, .move (.t 20), none, [0, 1, 2, 3, 4, 5, 6]⟩] ⟨r, B ++ List.replicate na none⟩) := z_draw X T na live r115_5 (by kernel_rfl) r B
theorem d165_2 (X : XEnv) (T : List Nat) (na : Nat) (live : List Nat) (r : List (Nat × AV)) (B : Boxs) : codeX X T (.region true na live r165_2) ⟨r, B⟩ = xEnd live (xOps (callX X) X.lin T true B.length [
  ⟨some 13, .move (.t 0), none, []⟩,
  ⟨some 14, .nilCheck (.t 13), none, [0]⟩,
  ⟨some 15, .fieldAddr 2 (.t 14), none, [1]⟩,
  ⟨some 16, .load false 1 (.t 15), none, [2]⟩,
  ⟨some 17, .bin .shr (.t 16) (.c (.d (.int .u64 33))), none, [3]⟩,
  ⟨some 18, .move (.t 0), none, []⟩,
  ⟨some 19, .nilCheck (.t 18), none, [5]⟩,
  ⟨some 20, .fieldAddr 2 (.t 19), none, [6]⟩,
  ⟨some 21, .load false 1 (.t 20), none, [7]⟩,
  ⟨some 22, .bin .shr (.t 21) (.c (.d (.int .u64 45))), none, [8]⟩,
  ⟨some 23, .bin .xor (.t 17) (.t 22), none, [4, 9]⟩,
  ⟨some 24, .bin .and (.t 23) (.c (.d (.int .i64 255))), none, [10]⟩,
  ⟨some 3, .move (.t 24), none, [0, 1, 2, 3, 4, 5, 6, 7, 8, 9, 10, 11]⟩] ⟨r, B ++ List.replicate na none⟩) := z_draw X T na live r165_2 (by kernel_rfl) r B
theorem d165_3 (X : XEnv) (T : List Nat) (na : Nat) (live : List Nat) (r : List (Nat × AV)) (B : Boxs) : codeX X T (.region true na live r165_3) ⟨r, B⟩ = xEnd live (xOps (callX X) X.lin T true B.length [
  ⟨some 25, .move (.t 0), none, []⟩,
  ⟨some 26, .nilCheck (.t 25), none, [0]⟩,
  ⟨some 27, .fieldAddr 1 (.t 26), none, [1]⟩,
  ⟨some 28, .load false 1 (.t 27), none, [2]⟩,
  ⟨some 29, .move (.t 0), none, []⟩,
  ⟨some 30, .nilCheck (.t 29), none, [4]⟩,
  ⟨some 31, .fieldAddr 0 (.t 30), none, [5]⟩,
  ⟨some 32, .load false 1 (.t 31), none, [6]⟩,
  ⟨some 33, .len false (.t 32), none, [7]⟩,
  ⟨some 34, .bin .lss (.t 28) (.t 33), none, [3, 8]⟩] ⟨r, B ++ List.replicate na none⟩) := z_draw X T na live r165_3 (by kernel_rfl) r B
theorem d165_4 (X : XEnv) (T : List Nat) (na : Nat) (live : List Nat) (r : List (Nat × AV)) (B : Boxs) : codeX X T (.region true na live r165_4) ⟨r, B⟩ = xEnd live (xOps (callX X) X.lin T true B.length [
  ⟨some 35, .move (.t 3), none, []⟩,
  ⟨some 36, .move (.t 0), none, []⟩,
  ⟨some 37, .nilCheck (.t 36), none, [1]⟩,
  ⟨some 38, .fieldAddr 0 (.t 37), none, [2]⟩,
  ⟨some 39, .load false 1 (.t 38), none, [3]⟩,
  ⟨some 40, .move (.t 0), none, []⟩,
  ⟨some 41, .nilCheck (.t 40), none, [5]⟩,
  ⟨some 42, .fieldAddr 1 (.t 41), none, [6]⟩,
  ⟨some 43, .load false 1 (.t 42), none, [7]⟩,
  ⟨some 44, .indexAddr 1 none (.t 39) (.t 43), none, [4, 8]⟩,
  ⟨some 45, .load false 1 (.t 44), none, [9]⟩,
  ⟨some 46, .conv (.kind .i64) (.t 45), none, [10]⟩,
  ⟨some 47, .bin .add (.t 35) (.t 46), none, [0, 11]⟩,
  ⟨some 48, .bin .and (.t 47) (.c (.d (.int .i64 255))), none, [12]⟩,
  ⟨some 3, .move (.t 48), none, [0, 1, 2, 3, 4, 5, 6, 7, 8, 9, 10, 11, 12, 13]⟩] ⟨r, B ++ List.replicate na none⟩) := z_draw X T na live r165_4 (by kernel_rfl) r B
theorem d232_13 (X : XEnv) (T : List Nat) (na : Nat) (live : List Nat) (r : List (Nat × AV)) (B : Boxs) : codeX X T (.region true na live r232_13) ⟨r, B⟩ = xEnd live (xOps (callX X) X.lin T true B.length [
  ⟨some 92, .move (.t 3), none, []⟩,
  ⟨some 93, .move (.t 3), none, []⟩,
  ⟨some 94, .move (.t 12), none, []⟩,
  ⟨some 95, .indexAddr 3 none (.t 93) (.t 94), none, [1, 2]⟩,
  ⟨some 96, .fieldAddr 0 (.t 95), none, [3]⟩,
  ⟨some 97, .load false 1 (.t 96), none, [4]⟩,
  ⟨some 98, .call true (.c (.fn 14 [])) [.t 92, .t 97], none, [0, 5]⟩,
  ⟨some 99, .move (.t 12), none, []⟩,
  ⟨some 100, .bin .neq (.t 98) (.t 99), none, [6, 7]⟩,
  ⟨some 101, .move (.t 100), none, [6, 8]⟩,
  ⟨some 102, .move (.t 3), some (101, false), [9]⟩,
  ⟨some 103, .move (.t 12), some (101, false), [9]⟩,
  ⟨some 104, .call true (.c (.fn 28 [])) [.t 102, .t 103], some (101, false), [9, 10, 11]⟩,
  ⟨some 105, .move (.t 3), some (101, false), [9]⟩,
  ⟨some 106, .move (.t 12), some (101, false), [9]⟩,
  ⟨some 107, .indexAddr 3 none (.t 105) (.t 106), some (101, false), [9, 13, 14]⟩,
  ⟨some 108, .fieldAddr 1 (.t 107), some (101, false), [9, 15]⟩,
  ⟨some 109, .load false 1 (.t 108), some (101, false), [9, 16]⟩,
  ⟨some 110, .bin .neq (.t 104) (.t 109), some (101, false), [9, 12, 17]⟩,
  ⟨some 111, .pick (.t 101) (.c (.d (.bool true))) (.t 110), none, [9, 18]⟩] ⟨r, B ++ List.replicate na none⟩) := z_draw X T na live r232_13 (by kernel_rfl) r B
theorem look_in : ∀ {l : List (Nat × VFn)} {k : Nat} {v : VFn}, look l k = some v → (k, v) ∈ l
  | [], _, _, h => by simp [look] at h
  | (a, u) :: r, k, v, h => by
    simp only [look] at h
    split at h
    · rename_i hk
      simp at h; subst h; subst hk; simp
    · exact List.mem_cons_of_mem _ (look_in h)
theorem lin_all : codes.all (fun q => q.2.linOK (linOf lins q.1)) = true := by kernel_rfl
theorem spec_all : specs.all (fun q => q.2.pre.linOK (linOf lins q.1) && q.2.rest.linOK (linOf lins q.1) && linDistinct (linOf lins q.1) (q.2.results.flatMap VRes.vx) && (linOf lins q.1).all (fun j => decide (q.2.np ≤ j))) = true := by kernel_rfl
theorem nats_ref : ∀ q, q ∈ nats → NatRef q.2 (natV q.2) ∧ linOf lins q.1 = [] := List.forall_mem_cons.2 ⟨⟨join_ref, by kernel_rfl⟩, List.forall_mem_nil _⟩
theorem xok : XOK XV := ⟨fun f vf h => List.all_eq_true.1 lin_all (f, vf) (look_in h), fun f g h => ⟨natV g, by show (lookN nats f).map natV = _; rw [show lookN nats f = some g from h]; rfl, (nats_ref (f, g) (lookN_mem h)).1, (nats_ref (f, g) (lookN_mem h)).2⟩, fun f h => by show (lookN nats f).map natV = _; rw [show lookN nats f = none from h]; rfl, fun f sf h => by
  have := List.all_eq_true.1 spec_all (f, sf) (lookS_mem h)
  simp only [Bool.and_eq_true] at this
  exact ⟨this.1.1.1, this.1.1.2, this.1.2, this.2⟩⟩
end Go.Proofs.Ytidlpcgcolcfgaa.VS
