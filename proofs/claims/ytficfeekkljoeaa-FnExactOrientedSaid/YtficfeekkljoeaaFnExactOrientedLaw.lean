/- Whatever its arguments are, FnExactOriented returns true, and they read behind the call as before. Condition: none beyond the given row's. -/
import Derived.Test.YtficfeekkljoeaaRows
import Derived.Test.YtficfeekkljoeaaEnv
import Derived.Test.YtficfeekkljoeaaLin
import Derived.Test.YtficfeekkljoeaaXP1
import Derived.Test.YtficfeekkljoeaaXP2
import Derived.Test.YtficfeekkljoeaaXP3
namespace Go.Proofs.Ytficfeekkljoeaa.VS
set_option linter.unusedVariables false
set_option linter.unusedSimpArgs false
theorem plainFnExactOriented (xs : List (List DV)) (h : Args Try.prog Try.f5.params.toList xs) : ∃ A B, callV E [] 338 (argDVs Try.prog Try.f5.params.toList xs) [] Ids.none = some ⟨.d (.bool true), A, B⟩ := by
  rw [Try.params5] at h ⊢
  obtain ⟨x0, x1, x2, rfl⟩ := args3 h
  obtain ⟨⟨_, s0⟩, ⟨⟨_, s1⟩, ⟨⟨_, s2⟩, _⟩⟩⟩ := h
  obtain ⟨g0, a0, rfl, h0, o0⟩ := (shape_syms Try.underlying38 Try.underlying71 (by kernel_rfl) Try.underlying9 Try.underlying3 Try.underlying4 (by refine ⟨?_, ?_, ?_, ?_⟩ <;> kernel_rfl)) s0
  obtain ⟨a1, rfl, h1⟩ := (shape_term Try.underlying41 (by kernel_rfl) Try.underlying3 Try.underlying39 (by refine ⟨?_, ?_, ?_⟩ <;> kernel_rfl) _ _ (Nat.lt_succ_self _)) s1
  obtain ⟨a2, rfl, h2⟩ := (shape_term Try.underlying41 (by kernel_rfl) Try.underlying3 Try.underlying39 (by refine ⟨?_, ?_, ?_⟩ <;> kernel_rfl) _ _ (Nat.lt_succ_self _)) s2
  obtain ⟨B, h⟩ := FnExactOriented_x a0 h0 o0 a1.erase (TT.ok_erase _ h1) a2.erase (TT.ok_erase _ h2)
  obtain ⟨A, B', h2⟩ := plain_of_X xok (k := 338) (vs := [syms g0 a0, a1.enc, a2.enc]) ⟨B, by simpa [DV.clrs, clr_str, clr_int, clr_syms, TT.clr_enc] using h⟩
  exact ⟨A, B', by simpa [argDVs, elemDV, TT.enc, Try.underlying38, Try.underlying41] using h2⟩
set_option maxRecDepth 100000 in
theorem liftedFnExactOriented (os : Os) (started : os.Started) (H : Type) (enc : TypeId × Value → H) :
    ReturnsInHanded {} Try.checked os 5 .any (Rows.fnExactOrientedSpec.pre6 enc Try.prog Try.f5 Rows.fnExactOrientedRow.domain false) (Rows.fnExactOrientedSpec.post enc Try.prog Try.f5 false true false false) :=
  law_lifted (C := Try.checked) (k := 338) (E := E) (S := [38, 71, 9, 3, 4, 41, 39]) (tb := 4) env_ok (by kernel_rfl) started (by kernel_rfl) rfl (by kernel_rfl) Try.func5 rfl (by kernel_rfl) (by kernel_rfl) (by kernel_rfl) (by kernel_rfl) Try.underlying4
    (fun ds hd => by match ds, hd with | [a0, a1, a2], _ => rfl)
    (ChangeSpec.witness6 (enc := enc) (C := Try.checked) false ⟨#[], #[.slice none 0 0, .agg #[.int .i64 0, .int .i64 0, .slice none 0 0], .agg #[.int .i64 0, .int .i64 0, .slice none 0 0]], []⟩ 8 (by kernel_rfl) (by kernel_rfl) (by kernel_rfl) (by kernel_rfl))
    plainFnExactOriented
theorem overFnExactOriented : Rows.fnExactOrientedRow.holds Try.pinned (OpenSpec.ofChange Rows.fnExactOrientedSpec) :=
  OpenClaim.holds_of_wide 5 Try.f5 rfl rfl rfl rfl rfl rfl rfl ⟨rfl, rfl, rfl, rfl, rfl⟩ rfl rfl rfl rfl rfl (by kernel_rfl) Try.func5 (by kernel_rfl)
    (of_decide_eq_true (by kernel_rfl)) (by unfold Func.isWrapper; first | (rw [if_pos (by decide +kernel)]; kernel_rfl) | (rw [if_neg (by decide +kernel)]; exact ⟨rfl, rfl⟩))
    (fun os started H enc _ => liftedFnExactOriented os started H enc)
end Go.Proofs.Ytficfeekkljoeaa.VS
namespace Go.Proofs.Ytficfeekkljoeaa
theorem fnExactOriented_said : Rows.FnExactOrientedSaid := VS.overFnExactOriented
#print axioms fnExactOriented_said
end Go.Proofs.Ytficfeekkljoeaa
