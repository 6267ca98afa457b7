/- Whatever its arguments are, FnExactNorm returns true, and they read behind the call as before. Condition: none beyond the given row's. -/
import Derived.Test.YtnjgnjejkmcgmaaRows
import Derived.Test.YtnjgnjejkmcgmaaEnv
import Derived.Test.YtnjgnjejkmcgmaaLin
import Derived.Test.YtnjgnjejkmcgmaaXP1
import Derived.Test.YtnjgnjejkmcgmaaXP2
import Derived.Test.YtnjgnjejkmcgmaaXP3
namespace Go.Proofs.Ytnjgnjejkmcgmaa.VS
set_option linter.unusedVariables false
set_option linter.unusedSimpArgs false
theorem plainFnExactNorm (xs : List (List DV)) (h : Args Try.prog Try.f3.params.toList xs) : ∃ A B, callV E [] 361 (argDVs Try.prog Try.f3.params.toList xs) [] Ids.none = some ⟨.d (.bool true), A, B⟩ := by
  rw [Try.params3] at h ⊢
  obtain ⟨x0, x1, rfl⟩ := args2 h
  obtain ⟨⟨_, s0⟩, ⟨⟨_, s1⟩, _⟩⟩ := h
  obtain ⟨g0, a0, rfl, h0, o0⟩ := (shape_syms Try.underlying22 Try.underlying60 (by kernel_rfl) Try.underlying9 Try.underlying3 Try.underlying4 (by refine ⟨?_, ?_, ?_, ?_⟩ <;> kernel_rfl)) s0
  obtain ⟨a1, rfl, h1⟩ := (shape_term Try.underlying25 (by kernel_rfl) Try.underlying3 Try.underlying23 (by refine ⟨?_, ?_, ?_⟩ <;> kernel_rfl) _ _ (Nat.lt_succ_self _)) s1
  obtain ⟨B, h⟩ := FnExactNorm_x a0 h0 o0 a1.erase (TT.ok_erase _ h1)
  obtain ⟨A, B', h2⟩ := plain_of_X xok (k := 361) (vs := [syms g0 a0, a1.enc]) ⟨B, by simpa [DV.clrs, clr_str, clr_int, clr_syms, TT.clr_enc] using h⟩
  exact ⟨A, B', by simpa [argDVs, elemDV, TT.enc, Try.underlying22, Try.underlying25] using h2⟩
set_option maxRecDepth 100000 in
theorem liftedFnExactNorm (os : Os) (started : os.Started) (H : Type) (enc : TypeId × Value → H) :
    ReturnsInHanded {} Try.checked os 3 .any (Rows.fnExactNormSpec.pre6 enc Try.prog Try.f3 Rows.fnExactNormRow.domain false) (Rows.fnExactNormSpec.post enc Try.prog Try.f3 false true false false) :=
  law_lifted (C := Try.checked) (k := 361) (E := E) (S := [22, 60, 9, 3, 4, 25, 23]) (tb := 4) env_ok (by kernel_rfl) started (by kernel_rfl) rfl (by kernel_rfl) Try.func3 rfl (by kernel_rfl) (by kernel_rfl) (by kernel_rfl) (by kernel_rfl) Try.underlying4
    (fun ds hd => by match ds, hd with | [a0, a1], _ => rfl)
    (ChangeSpec.witness6 (enc := enc) (C := Try.checked) false ⟨#[], #[.slice none 0 0, .agg #[.int .i64 0, .int .i64 0, .slice none 0 0]], []⟩ 8 (by kernel_rfl) (by kernel_rfl) (by kernel_rfl) (by kernel_rfl))
    plainFnExactNorm
theorem overFnExactNorm : Rows.fnExactNormRow.holds Try.pinned (OpenSpec.ofChange Rows.fnExactNormSpec) :=
  OpenClaim.holds_of_wide 3 Try.f3 rfl rfl rfl rfl rfl rfl rfl ⟨rfl, rfl, rfl, rfl, rfl⟩ rfl rfl rfl rfl rfl (by kernel_rfl) Try.func3 (by kernel_rfl)
    (of_decide_eq_true (by kernel_rfl)) (by unfold Func.isWrapper; first | (rw [if_pos (by decide +kernel)]; kernel_rfl) | (rw [if_neg (by decide +kernel)]; exact ⟨rfl, rfl⟩))
    (fun os started H enc _ => liftedFnExactNorm os started H enc)
end Go.Proofs.Ytnjgnjejkmcgmaa.VS
namespace Go.Proofs.Ytnjgnjejkmcgmaa
theorem fnExactNorm_said : Rows.FnExactNormSaid := VS.overFnExactNorm
#print axioms fnExactNorm_said
end Go.Proofs.Ytnjgnjejkmcgmaa
