/- Whatever its arguments are, FnExactMake returns true, and they read behind the call as before. Condition: none beyond the given row's. -/
import Derived.Test.YtnjgnjejkmcgmaaRows
import Derived.Test.YtnjgnjejkmcgmaaEnv
import Derived.Test.YtnjgnjejkmcgmaaLin
import Derived.Test.YtnjgnjejkmcgmaaXP1
import Derived.Test.YtnjgnjejkmcgmaaXP2
import Derived.Test.YtnjgnjejkmcgmaaXP3
namespace Go.Proofs.Ytnjgnjejkmcgmaa.VS
set_option linter.unusedVariables false
set_option linter.unusedSimpArgs false
theorem plainFnExactMake (xs : List (List DV)) (h : Args Try.prog Try.f4.params.toList xs) : ∃ A B, callV E [] 360 (argDVs Try.prog Try.f4.params.toList xs) [] Ids.none = some ⟨.d (.bool true), A, B⟩ := by
  rw [Try.params4] at h ⊢
  obtain ⟨x0, x1, x2, rfl⟩ := args3 h
  obtain ⟨⟨_, s0⟩, ⟨⟨_, s1⟩, ⟨⟨_, s2⟩, _⟩⟩⟩ := h
  obtain ⟨g0, a0, rfl, h0, o0⟩ := (shape_syms Try.underlying22 Try.underlying60 (by kernel_rfl) Try.underlying9 Try.underlying3 Try.underlying4 (by refine ⟨?_, ?_, ?_, ?_⟩ <;> kernel_rfl)) s0
  obtain ⟨a1, rfl, h1⟩ := shape_int Try.underlying3 s1
  obtain ⟨g2, a2, rfl, h2, o2⟩ := shape_terms Try.underlying23 Try.underlying25 (fun x => (shape_term Try.underlying25 (by kernel_rfl) Try.underlying3 Try.underlying23 (by refine ⟨?_, ?_, ?_⟩ <;> kernel_rfl) _ _ (Nat.lt_succ_self _))) s2
  obtain ⟨B, h⟩ := FnExactMake_x a0 h0 o0 a1 (wf_i64 h1) (a2.map TT.erase) (by simpa using h2) (TT.oks_erase_all o2)
  obtain ⟨A, B', h2⟩ := plain_of_X xok (k := 360) (vs := [syms g0 a0, .int .i64 a1, termsV g2 a2]) ⟨B, by simpa [DV.clrs, clr_str, clr_int, clr_syms, clr_termsV] using h⟩
  exact ⟨A, B', by simpa [argDVs, elemDV, TT.enc, Try.underlying3, Try.underlying22, Try.underlying23] using h2⟩
set_option maxRecDepth 100000 in
theorem liftedFnExactMake (os : Os) (started : os.Started) (H : Type) (enc : TypeId × Value → H) :
    ReturnsInHanded {} Try.checked os 4 .any (Rows.fnExactMakeSpec.pre6 enc Try.prog Try.f4 Rows.fnExactMakeRow.domain false) (Rows.fnExactMakeSpec.post enc Try.prog Try.f4 false true false false) :=
  law_lifted (C := Try.checked) (k := 360) (E := E) (S := [22, 60, 9, 3, 4, 23, 25]) (tb := 4) env_ok (by kernel_rfl) started (by kernel_rfl) rfl (by kernel_rfl) Try.func4 rfl (by kernel_rfl) (by kernel_rfl) (by kernel_rfl) (by kernel_rfl) Try.underlying4
    (fun ds hd => by match ds, hd with | [a0, a1, a2], _ => rfl)
    (ChangeSpec.witness6 (enc := enc) (C := Try.checked) false ⟨#[], #[.slice none 0 0, .int .i64 0, .slice none 0 0], []⟩ 8 (by kernel_rfl) (by kernel_rfl) (by kernel_rfl) (by kernel_rfl))
    plainFnExactMake
theorem overFnExactMake : Rows.fnExactMakeRow.holds Try.pinned (OpenSpec.ofChange Rows.fnExactMakeSpec) :=
  OpenClaim.holds_of_wide 4 Try.f4 rfl rfl rfl rfl rfl rfl rfl ⟨rfl, rfl, rfl, rfl, rfl⟩ rfl rfl rfl rfl rfl (by kernel_rfl) Try.func4 (by kernel_rfl)
    (of_decide_eq_true (by kernel_rfl)) (by unfold Func.isWrapper; first | (rw [if_pos (by decide +kernel)]; kernel_rfl) | (rw [if_neg (by decide +kernel)]; exact ⟨rfl, rfl⟩))
    (fun os started H enc _ => liftedFnExactMake os started H enc)
end Go.Proofs.Ytnjgnjejkmcgmaa.VS
namespace Go.Proofs.Ytnjgnjejkmcgmaa
theorem fnExactMake_said : Rows.FnExactMakeSaid := VS.overFnExactMake
#print axioms fnExactMake_said
end Go.Proofs.Ytnjgnjejkmcgmaa
