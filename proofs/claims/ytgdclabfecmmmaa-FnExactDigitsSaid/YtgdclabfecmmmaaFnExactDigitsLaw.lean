/- Whatever its arguments are, FnExactDigits returns true, and they read behind the call as before. Condition: none beyond the given row's. -/
import Derived.Test.YtgdclabfecmmmaaRows
import Derived.Test.YtgdclabfecmmmaaOk
import Derived.Test.YtgdclabfecmmmaaLin
import Derived.Test.YtgdclabfecmmmaaXTerm
import Derived.Test.YtgdclabfecmmmaaXTerm2
import Derived.Test.YtgdclabfecmmmaaXSig
import Derived.Test.YtgdclabfecmmmaaXName
import Derived.Test.YtgdclabfecmmmaaXDigits
import Derived.Test.YtgdclabfecmmmaaXNum
import Derived.Test.YtgdclabfecmmmaaXLaw
namespace Go.Proofs.Ytgdclabfecmmmaa.VS
set_option linter.unusedVariables false
set_option linter.unusedSimpArgs false
theorem plainFnExactDigits (xs : List (List DV)) (h : Args Try.prog Try.f5.params.toList xs) : ∃ A B, callV E [] 57 (argDVs Try.prog Try.f5.params.toList xs) [] Ids.none = some ⟨.d (.bool true), A, B⟩ := by
  rw [Try.params5] at h ⊢
  obtain ⟨x0, rfl⟩ := args1 h
  obtain ⟨⟨_, s0⟩, _⟩ := h
  obtain ⟨a0, rfl, h0⟩ := shape_int Try.underlying3 s0
  obtain ⟨B, h⟩ := FnExactDigits_x a0 (wf_i64 h0)
  obtain ⟨A, B', h2⟩ := plain_of_X xok (k := 57) (vs := [.int .i64 a0]) ⟨B, by simpa [DV.clrs, clr_str, clr_int] using h⟩
  exact ⟨A, B', by simpa [argDVs, elemDV, TT.enc, Try.underlying3] using h2⟩
set_option maxRecDepth 100000 in
theorem liftedFnExactDigits (os : Os) (started : os.Started) (H : Type) (enc : TypeId × Value → H) :
    ReturnsInHanded {} Try.checked os 5 .any (Rows.fnExactDigitsSpec.pre6 enc Try.prog Try.f5 Rows.fnExactDigitsRow.domain false) (Rows.fnExactDigitsSpec.post enc Try.prog Try.f5 false true false false) :=
  law_lifted (C := Try.checked) (k := 57) (E := E) (S := [3]) (tb := 4) env_ok (by kernel_rfl) started (by kernel_rfl) rfl (by kernel_rfl) Try.func5 rfl (by kernel_rfl) (by kernel_rfl) (by kernel_rfl) (by kernel_rfl) Try.underlying4
    (fun ds hd => by match ds, hd with | [a0], _ => rfl)
    (ChangeSpec.witness6 (enc := enc) (C := Try.checked) false ⟨#[], #[.int .i64 0], []⟩ 8 (by kernel_rfl) (by kernel_rfl) (by kernel_rfl) (by kernel_rfl))
    plainFnExactDigits
theorem overFnExactDigits : Rows.fnExactDigitsRow.holds Try.pinned (OpenSpec.ofChange Rows.fnExactDigitsSpec) :=
  OpenClaim.holds_of_wide 5 Try.f5 rfl rfl rfl rfl rfl rfl rfl ⟨rfl, rfl, rfl, rfl, rfl⟩ rfl rfl rfl rfl rfl (by kernel_rfl) Try.func5 (by kernel_rfl)
    (of_decide_eq_true (by kernel_rfl)) (by unfold Func.isWrapper; first | (rw [if_pos (by decide +kernel)]; kernel_rfl) | (rw [if_neg (by decide +kernel)]; exact ⟨rfl, rfl⟩))
    (fun os started H enc _ => liftedFnExactDigits os started H enc)
end Go.Proofs.Ytgdclabfecmmmaa.VS
namespace Go.Proofs.Ytgdclabfecmmmaa
theorem fnExactDigits_said : Rows.FnExactDigitsSaid := VS.overFnExactDigits
#print axioms fnExactDigits_said
end Go.Proofs.Ytgdclabfecmmmaa
