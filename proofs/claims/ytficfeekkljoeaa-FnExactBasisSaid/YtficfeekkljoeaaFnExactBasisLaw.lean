/- Whatever its arguments are, FnExactBasis returns true, and they read behind the call as before. Condition: none beyond the given row's. -/
import Derived.Test.YtficfeekkljoeaaRows
import Derived.Test.YtficfeekkljoeaaEnv
import Derived.Test.YtficfeekkljoeaaLin
import Derived.Test.YtficfeekkljoeaaXP1
import Derived.Test.YtficfeekkljoeaaXP2
namespace Go.Proofs.Ytficfeekkljoeaa.VS
set_option linter.unusedVariables false
set_option linter.unusedSimpArgs false
theorem plainFnExactBasis (xs : List (List DV)) (h : Args Try.prog Try.f3.params.toList xs) : ∃ A B, callV E [] 355 (argDVs Try.prog Try.f3.params.toList xs) [] Ids.none = some ⟨.d (.bool true), A, B⟩ := by
  rw [Try.params3] at h ⊢
  obtain ⟨x0, x1, rfl⟩ := args2 h
  obtain ⟨⟨_, s0⟩, ⟨⟨_, s1⟩, _⟩⟩ := h
  obtain ⟨g0, a0, rfl, h0, o0⟩ := shape_ints Try.underlying22 Try.underlying3 s0
  obtain ⟨g1, a1, rfl, h1, o1⟩ := shape_ints Try.underlying22 Try.underlying3 s1
  obtain ⟨B, h⟩ := FnExactBasis_x a0 h0 o0 a1 h1 o1
  obtain ⟨A, B', h2⟩ := plain_of_X xok (k := 355) (vs := [ints g0 a0, ints g1 a1]) ⟨B, by simpa [DV.clrs, clr_str, clr_int, clr_ints] using h⟩
  exact ⟨A, B', by simpa [argDVs, elemDV, TT.enc, Try.underlying22] using h2⟩
set_option maxRecDepth 100000 in
theorem liftedFnExactBasis (os : Os) (started : os.Started) (H : Type) (enc : TypeId × Value → H) :
    ReturnsInHanded {} Try.checked os 3 .any (Rows.fnExactBasisSpec.pre6 enc Try.prog Try.f3 Rows.fnExactBasisRow.domain false) (Rows.fnExactBasisSpec.post enc Try.prog Try.f3 false true false false) :=
  law_lifted (C := Try.checked) (k := 355) (E := E) (S := [22, 3]) (tb := 4) env_ok (by kernel_rfl) started (by kernel_rfl) rfl (by kernel_rfl) Try.func3 rfl (by kernel_rfl) (by kernel_rfl) (by kernel_rfl) (by kernel_rfl) Try.underlying4
    (fun ds hd => by match ds, hd with | [a0, a1], _ => rfl)
    (ChangeSpec.witness6 (enc := enc) (C := Try.checked) false ⟨#[], #[.slice none 0 0, .slice none 0 0], []⟩ 8 (by kernel_rfl) (by kernel_rfl) (by kernel_rfl) (by kernel_rfl))
    plainFnExactBasis
theorem overFnExactBasis : Rows.fnExactBasisRow.holds Try.pinned (OpenSpec.ofChange Rows.fnExactBasisSpec) :=
  OpenClaim.holds_of_wide 3 Try.f3 rfl rfl rfl rfl rfl rfl rfl ⟨rfl, rfl, rfl, rfl, rfl⟩ rfl rfl rfl rfl rfl (by kernel_rfl) Try.func3 (by kernel_rfl)
    (of_decide_eq_true (by kernel_rfl)) (by unfold Func.isWrapper; first | (rw [if_pos (by decide +kernel)]; kernel_rfl) | (rw [if_neg (by decide +kernel)]; exact ⟨rfl, rfl⟩))
    (fun os started H enc _ => liftedFnExactBasis os started H enc)
end Go.Proofs.Ytficfeekkljoeaa.VS
namespace Go.Proofs.Ytficfeekkljoeaa
theorem fnExactBasis_said : Rows.FnExactBasisSaid := VS.overFnExactBasis
#print axioms fnExactBasis_said
end Go.Proofs.Ytficfeekkljoeaa
