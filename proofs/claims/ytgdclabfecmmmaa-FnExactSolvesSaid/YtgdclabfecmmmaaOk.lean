/- The evaluator's code is the program's. -/
import Derived.Test.YtgdclabfecmmmaaEngB
import Derived.Test.YtgdclabfecmmmaaCode
import Derived.Test.YtgdclabfecmmmaaChecked
import Derived.KernelRfl
namespace Go.Proofs.Ytgdclabfecmmmaa.VS
set_option linter.unusedVariables false
open Go.Proofs
def fid : Nat → FuncId
  | 0 => 14
  | 1 => 36
  | 2 => 38
  | 3 => 43
  | 4 => 44
  | 5 => 40
  | 6 => 64
  | 7 => 61
  | 8 => 58
  | 9 => 57
  | 10 => 13
  | 11 => 29
  | 12 => 31
  | 13 => 41
  | 14 => 42
  | 15 => 33
  | 16 => 54
  | 17 => 53
  | 18 => 63
  | 19 => 62
  | 20 => 56
  | 21 => 12
  | 22 => 37
  | 23 => 39
  | 24 => 60
  | 25 => 59
  | 26 => 11
  | 27 => 34
  | 28 => 35
  | 29 => 55
  | 30 => 48
  | 31 => 45
  | 32 => 10
  | 33 => 30
  | 34 => 32
  | 35 => 9
  | 36 => 27
  | 37 => 28
  | 38 => 18
  | 39 => 17
  | 40 => 8
  | 41 => 20
  | 42 => 25
  | 43 => 26
  | 44 => 22
  | 45 => 51
  | 46 => 52
  | 47 => 66
  | 48 => 50
  | 49 => 7
  | 50 => 23
  | 51 => 24
  | 52 => 6
  | 53 => 19
  | 54 => 21
  | 55 => 49
  | 56 => 65
  | 57 => 5
  | 58 => 4
  | 59 => 15
  | 60 => 16
  | 61 => 46
  | 62 => 47
  | 63 => 3
  | _ => 0
theorem ok_0 : ∃ fn, Try.prog.funcs[fid 0]? = some fn ∧ okFn Try.prog fid fn v0 = true := ⟨Try.f14, Try.func14, by kernel_rfl⟩
theorem ok_1 : ∃ fn, Try.prog.funcs[fid 1]? = some fn ∧ okFn Try.prog fid fn v1 = true := ⟨Try.f36, Try.func36, by kernel_rfl⟩
theorem ok_2 : ∃ fn, Try.prog.funcs[fid 2]? = some fn ∧ okFn Try.prog fid fn v2 = true := ⟨Try.f38, Try.func38, by kernel_rfl⟩
theorem ok_3 : ∃ fn, Try.prog.funcs[fid 3]? = some fn ∧ okFn Try.prog fid fn v3 = true := ⟨Try.f43, Try.func43, by kernel_rfl⟩
theorem ok_4 : ∃ fn, Try.prog.funcs[fid 4]? = some fn ∧ okFn Try.prog fid fn v4 = true := ⟨Try.f44, Try.func44, by kernel_rfl⟩
theorem ok_5 : ∃ fn, Try.prog.funcs[fid 5]? = some fn ∧ okFn Try.prog fid fn v5 = true := ⟨Try.f40, Try.func40, by kernel_rfl⟩
theorem ok_6 : ∃ fn, Try.prog.funcs[fid 6]? = some fn ∧ okFn Try.prog fid fn v6 = true := ⟨Try.f64, Try.func64, by kernel_rfl⟩
theorem ok_7 : ∃ fn, Try.prog.funcs[fid 7]? = some fn ∧ okFn Try.prog fid fn v7 = true := ⟨Try.f61, Try.func61, by kernel_rfl⟩
theorem ok_8 : ∃ fn, Try.prog.funcs[fid 8]? = some fn ∧ okFn Try.prog fid fn v8 = true := ⟨Try.f58, Try.func58, by kernel_rfl⟩
theorem ok_9 : ∃ fn, Try.prog.funcs[fid 9]? = some fn ∧ okFn Try.prog fid fn v9 = true := ⟨Try.f57, Try.func57, by kernel_rfl⟩
theorem ok_10 : ∃ fn, Try.prog.funcs[fid 10]? = some fn ∧ okFn Try.prog fid fn v10 = true := ⟨Try.f13, Try.func13, by kernel_rfl⟩
theorem ok_11 : ∃ fn, Try.prog.funcs[fid 11]? = some fn ∧ okFn Try.prog fid fn v11 = true := ⟨Try.f29, Try.func29, by kernel_rfl⟩
theorem ok_12 : ∃ fn, Try.prog.funcs[fid 12]? = some fn ∧ okFn Try.prog fid fn v12 = true := ⟨Try.f31, Try.func31, by kernel_rfl⟩
theorem ok_13 : ∃ fn, Try.prog.funcs[fid 13]? = some fn ∧ okFn Try.prog fid fn v13 = true := ⟨Try.f41, Try.func41, by kernel_rfl⟩
theorem ok_14 : ∃ fn, Try.prog.funcs[fid 14]? = some fn ∧ okFn Try.prog fid fn v14 = true := ⟨Try.f42, Try.func42, by kernel_rfl⟩
theorem ok_15 : ∃ fn, Try.prog.funcs[fid 15]? = some fn ∧ okFn Try.prog fid fn v15 = true := ⟨Try.f33, Try.func33, by kernel_rfl⟩
theorem ok_16 : ∃ fn, Try.prog.funcs[fid 16]? = some fn ∧ okFn Try.prog fid fn v16 = true := ⟨Try.f54, Try.func54, by kernel_rfl⟩
theorem ok_17 : ∃ fn, Try.prog.funcs[fid 17]? = some fn ∧ okFn Try.prog fid fn v17 = true := ⟨Try.f53, Try.func53, by kernel_rfl⟩
theorem ok_18 : ∃ fn, Try.prog.funcs[fid 18]? = some fn ∧ okFn Try.prog fid fn v18 = true := ⟨Try.f63, Try.func63, by kernel_rfl⟩
theorem ok_19 : ∃ fn, Try.prog.funcs[fid 19]? = some fn ∧ okFn Try.prog fid fn v19 = true := ⟨Try.f62, Try.func62, by kernel_rfl⟩
theorem ok_20 : ∃ fn, Try.prog.funcs[fid 20]? = some fn ∧ okFn Try.prog fid fn v20 = true := ⟨Try.f56, Try.func56, by kernel_rfl⟩
theorem ok_21 : ∃ fn, Try.prog.funcs[fid 21]? = some fn ∧ okFn Try.prog fid fn v21 = true := ⟨Try.f12, Try.func12, by kernel_rfl⟩
theorem ok_22 : ∃ fn, Try.prog.funcs[fid 22]? = some fn ∧ okFn Try.prog fid fn v22 = true := ⟨Try.f37, Try.func37, by kernel_rfl⟩
theorem ok_23 : ∃ fn, Try.prog.funcs[fid 23]? = some fn ∧ okFn Try.prog fid fn v23 = true := ⟨Try.f39, Try.func39, by kernel_rfl⟩
theorem ok_24 : ∃ fn, Try.prog.funcs[fid 24]? = some fn ∧ okFn Try.prog fid fn v24 = true := ⟨Try.f60, Try.func60, by kernel_rfl⟩
theorem ok_25 : ∃ fn, Try.prog.funcs[fid 25]? = some fn ∧ okFn Try.prog fid fn v25 = true := ⟨Try.f59, Try.func59, by kernel_rfl⟩
theorem ok_26 : ∃ fn, Try.prog.funcs[fid 26]? = some fn ∧ okFn Try.prog fid fn v26 = true := ⟨Try.f11, Try.func11, by kernel_rfl⟩
theorem ok_27 : ∃ fn, Try.prog.funcs[fid 27]? = some fn ∧ okFn Try.prog fid fn v27 = true := ⟨Try.f34, Try.func34, by kernel_rfl⟩
theorem ok_28 : ∃ fn, Try.prog.funcs[fid 28]? = some fn ∧ okFn Try.prog fid fn v28 = true := ⟨Try.f35, Try.func35, by kernel_rfl⟩
theorem ok_29 : ∃ fn, Try.prog.funcs[fid 29]? = some fn ∧ okFn Try.prog fid fn v29 = true := ⟨Try.f55, Try.func55, by kernel_rfl⟩
theorem ok_30 : ∃ fn, Try.prog.funcs[fid 30]? = some fn ∧ okFn Try.prog fid fn v30 = true := ⟨Try.f48, Try.func48, by kernel_rfl⟩
theorem ok_31 : ∃ fn, Try.prog.funcs[fid 31]? = some fn ∧ okFn Try.prog fid fn v31 = true := ⟨Try.f45, Try.func45, by kernel_rfl⟩
theorem ok_32 : ∃ fn, Try.prog.funcs[fid 32]? = some fn ∧ okFn Try.prog fid fn v32 = true := ⟨Try.f10, Try.func10, by kernel_rfl⟩
theorem ok_33 : ∃ fn, Try.prog.funcs[fid 33]? = some fn ∧ okFn Try.prog fid fn v33 = true := ⟨Try.f30, Try.func30, by kernel_rfl⟩
theorem ok_34 : ∃ fn, Try.prog.funcs[fid 34]? = some fn ∧ okFn Try.prog fid fn v34 = true := ⟨Try.f32, Try.func32, by kernel_rfl⟩
theorem ok_35 : ∃ fn, Try.prog.funcs[fid 35]? = some fn ∧ okFn Try.prog fid fn v35 = true := ⟨Try.f9, Try.func9, by kernel_rfl⟩
theorem ok_36 : ∃ fn, Try.prog.funcs[fid 36]? = some fn ∧ okFn Try.prog fid fn v36 = true := ⟨Try.f27, Try.func27, by kernel_rfl⟩
theorem ok_37 : ∃ fn, Try.prog.funcs[fid 37]? = some fn ∧ okFn Try.prog fid fn v37 = true := ⟨Try.f28, Try.func28, by kernel_rfl⟩
theorem ok_38 : ∃ fn, Try.prog.funcs[fid 38]? = some fn ∧ okFn Try.prog fid fn v38 = true := ⟨Try.f18, Try.func18, by kernel_rfl⟩
theorem ok_39 : ∃ fn, Try.prog.funcs[fid 39]? = some fn ∧ okFn Try.prog fid fn v39 = true := ⟨Try.f17, Try.func17, by kernel_rfl⟩
theorem ok_40 : ∃ fn, Try.prog.funcs[fid 40]? = some fn ∧ okFn Try.prog fid fn v40 = true := ⟨Try.f8, Try.func8, by kernel_rfl⟩
theorem ok_41 : ∃ fn, Try.prog.funcs[fid 41]? = some fn ∧ okFn Try.prog fid fn v41 = true := ⟨Try.f20, Try.func20, by kernel_rfl⟩
theorem ok_42 : ∃ fn, Try.prog.funcs[fid 42]? = some fn ∧ okFn Try.prog fid fn v42 = true := ⟨Try.f25, Try.func25, by kernel_rfl⟩
theorem ok_43 : ∃ fn, Try.prog.funcs[fid 43]? = some fn ∧ okFn Try.prog fid fn v43 = true := ⟨Try.f26, Try.func26, by kernel_rfl⟩
theorem ok_44 : ∃ fn, Try.prog.funcs[fid 44]? = some fn ∧ okFn Try.prog fid fn v44 = true := ⟨Try.f22, Try.func22, by kernel_rfl⟩
theorem ok_45 : ∃ fn, Try.prog.funcs[fid 45]? = some fn ∧ okFn Try.prog fid fn v45 = true := ⟨Try.f51, Try.func51, by kernel_rfl⟩
theorem ok_46 : ∃ fn, Try.prog.funcs[fid 46]? = some fn ∧ okFn Try.prog fid fn v46 = true := ⟨Try.f52, Try.func52, by kernel_rfl⟩
theorem ok_47 : ∃ fn, Try.prog.funcs[fid 47]? = some fn ∧ okFn Try.prog fid fn v47 = true := ⟨Try.f66, Try.func66, by kernel_rfl⟩
theorem ok_48 : ∃ fn, Try.prog.funcs[fid 48]? = some fn ∧ okFn Try.prog fid fn v48 = true := ⟨Try.f50, Try.func50, by kernel_rfl⟩
theorem ok_49 : ∃ fn, Try.prog.funcs[fid 49]? = some fn ∧ okFn Try.prog fid fn v49 = true := ⟨Try.f7, Try.func7, by kernel_rfl⟩
theorem ok_50 : ∃ fn, Try.prog.funcs[fid 50]? = some fn ∧ okFn Try.prog fid fn v50 = true := ⟨Try.f23, Try.func23, by kernel_rfl⟩
theorem ok_51 : ∃ fn, Try.prog.funcs[fid 51]? = some fn ∧ okFn Try.prog fid fn v51 = true := ⟨Try.f24, Try.func24, by kernel_rfl⟩
theorem ok_52 : ∃ fn, Try.prog.funcs[fid 52]? = some fn ∧ okFn Try.prog fid fn v52 = true := ⟨Try.f6, Try.func6, by kernel_rfl⟩
theorem ok_53 : ∃ fn, Try.prog.funcs[fid 53]? = some fn ∧ okFn Try.prog fid fn v53 = true := ⟨Try.f19, Try.func19, by kernel_rfl⟩
theorem ok_54 : ∃ fn, Try.prog.funcs[fid 54]? = some fn ∧ okFn Try.prog fid fn v54 = true := ⟨Try.f21, Try.func21, by kernel_rfl⟩
theorem ok_55 : ∃ fn, Try.prog.funcs[fid 55]? = some fn ∧ okFn Try.prog fid fn v55 = true := ⟨Try.f49, Try.func49, by kernel_rfl⟩
theorem ok_56 : ∃ fn, Try.prog.funcs[fid 56]? = some fn ∧ okFn Try.prog fid fn v56 = true := ⟨Try.f65, Try.func65, by kernel_rfl⟩
theorem ok_57 : ∃ fn, Try.prog.funcs[fid 57]? = some fn ∧ okFn Try.prog fid fn v57 = true := ⟨Try.f5, Try.func5, by kernel_rfl⟩
theorem ok_58 : ∃ fn, Try.prog.funcs[fid 58]? = some fn ∧ okFn Try.prog fid fn v58 = true := ⟨Try.f4, Try.func4, by kernel_rfl⟩
theorem ok_59 : ∃ fn, Try.prog.funcs[fid 59]? = some fn ∧ okFn Try.prog fid fn v59 = true := ⟨Try.f15, Try.func15, by kernel_rfl⟩
theorem ok_60 : ∃ fn, Try.prog.funcs[fid 60]? = some fn ∧ okFn Try.prog fid fn v60 = true := ⟨Try.f16, Try.func16, by kernel_rfl⟩
theorem ok_61 : ∃ fn, Try.prog.funcs[fid 61]? = some fn ∧ okFn Try.prog fid fn v61 = true := ⟨Try.f46, Try.func46, by kernel_rfl⟩
theorem ok_62 : ∃ fn, Try.prog.funcs[fid 62]? = some fn ∧ okFn Try.prog fid fn v62 = true := ⟨Try.f47, Try.func47, by kernel_rfl⟩
theorem ok_63 : ∃ fn, Try.prog.funcs[fid 63]? = some fn ∧ okFn Try.prog fid fn v63 = true := ⟨Try.f3, Try.func3, by kernel_rfl⟩
theorem look_mem : ∀ {l : List (Nat × VFn)} {k : Nat} {v : VFn}, look l k = some v → (k, v) ∈ l
  | [], _, _, h => by simp [look] at h
  | (a, u) :: r, k, v, h => by
    simp only [look] at h
    split at h
    · rename_i hk
      simp at h; subst h; subst hk; simp
    · exact List.mem_cons_of_mem _ (look_mem h)
theorem codes_ok : ∀ q, q ∈ codes → ∃ fn, Try.prog.funcs[fid q.1]? = some fn ∧ okFn Try.prog fid fn q.2 = true :=
  List.forall_mem_cons.2 ⟨ok_0, List.forall_mem_cons.2 ⟨ok_1, List.forall_mem_cons.2 ⟨ok_2, List.forall_mem_cons.2 ⟨ok_3, List.forall_mem_cons.2 ⟨ok_4, List.forall_mem_cons.2 ⟨ok_5, List.forall_mem_cons.2 ⟨ok_6, List.forall_mem_cons.2 ⟨ok_7, List.forall_mem_cons.2 ⟨ok_8, List.forall_mem_cons.2 ⟨ok_9, List.forall_mem_cons.2 ⟨ok_10, List.forall_mem_cons.2 ⟨ok_11, List.forall_mem_cons.2 ⟨ok_12, List.forall_mem_cons.2 ⟨ok_13, List.forall_mem_cons.2 ⟨ok_14, List.forall_mem_cons.2 ⟨ok_15, List.forall_mem_cons.2 ⟨ok_16, List.forall_mem_cons.2 ⟨ok_17, List.forall_mem_cons.2 ⟨ok_18, List.forall_mem_cons.2 ⟨ok_19, List.forall_mem_cons.2 ⟨ok_20, List.forall_mem_cons.2 ⟨ok_21, List.forall_mem_cons.2 ⟨ok_22, List.forall_mem_cons.2 ⟨ok_23, List.forall_mem_cons.2 ⟨ok_24, List.forall_mem_cons.2 ⟨ok_25, List.forall_mem_cons.2 ⟨ok_26, List.forall_mem_cons.2 ⟨ok_27, List.forall_mem_cons.2 ⟨ok_28, List.forall_mem_cons.2 ⟨ok_29, List.forall_mem_cons.2 ⟨ok_30, List.forall_mem_cons.2 ⟨ok_31, List.forall_mem_cons.2 ⟨ok_32, List.forall_mem_cons.2 ⟨ok_33, List.forall_mem_cons.2 ⟨ok_34, List.forall_mem_cons.2 ⟨ok_35, List.forall_mem_cons.2 ⟨ok_36, List.forall_mem_cons.2 ⟨ok_37, List.forall_mem_cons.2 ⟨ok_38, List.forall_mem_cons.2 ⟨ok_39, List.forall_mem_cons.2 ⟨ok_40, List.forall_mem_cons.2 ⟨ok_41, List.forall_mem_cons.2 ⟨ok_42, List.forall_mem_cons.2 ⟨ok_43, List.forall_mem_cons.2 ⟨ok_44, List.forall_mem_cons.2 ⟨ok_45, List.forall_mem_cons.2 ⟨ok_46, List.forall_mem_cons.2 ⟨ok_47, List.forall_mem_cons.2 ⟨ok_48, List.forall_mem_cons.2 ⟨ok_49, List.forall_mem_cons.2 ⟨ok_50, List.forall_mem_cons.2 ⟨ok_51, List.forall_mem_cons.2 ⟨ok_52, List.forall_mem_cons.2 ⟨ok_53, List.forall_mem_cons.2 ⟨ok_54, List.forall_mem_cons.2 ⟨ok_55, List.forall_mem_cons.2 ⟨ok_56, List.forall_mem_cons.2 ⟨ok_57, List.forall_mem_cons.2 ⟨ok_58, List.forall_mem_cons.2 ⟨ok_59, List.forall_mem_cons.2 ⟨ok_60, List.forall_mem_cons.2 ⟨ok_61, List.forall_mem_cons.2 ⟨ok_62, List.forall_mem_cons.2 ⟨ok_63, List.forall_mem_nil _⟩⟩⟩⟩⟩⟩⟩⟩⟩⟩⟩⟩⟩⟩⟩⟩⟩⟩⟩⟩⟩⟩⟩⟩⟩⟩⟩⟩⟩⟩⟩⟩⟩⟩⟩⟩⟩⟩⟩⟩⟩⟩⟩⟩⟩⟩⟩⟩⟩⟩⟩⟩⟩⟩⟩⟩⟩⟩⟩⟩⟩⟩⟩⟩
theorem env_ok : EnvOK Try.prog fid E := ⟨fun k vf _ h => codes_ok (k, vf) (look_mem h), fun k f h => (by cases h), by kernel_rfl⟩
end Go.Proofs.Ytgdclabfecmmmaa.VS
