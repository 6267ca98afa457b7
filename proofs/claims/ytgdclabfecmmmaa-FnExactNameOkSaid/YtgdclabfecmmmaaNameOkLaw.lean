/- For every text FnExactNameOk returns true, and its argument reads as before. Condition: none beyond the given row's. -/
import Derived.Test.YtgdclabfecmmmaaRows
import Derived.Test.YtgdclabfecmmmaaOk
import Derived.Test.YtgdclabfecmmmaaNameOk
namespace Go.Proofs.Ytgdclabfecmmmaa.VS
set_option linter.unusedVariables false
theorem plainNameOk (xs : List (List DV)) (h : Args Try.prog Try.f4.params.toList xs) : ∃ A B, callV E [] 58 (argDVs Try.prog Try.f4.params.toList xs) [] Ids.none = some ⟨.d (.bool true), A, B⟩ := by
  rw [Try.params4] at h ⊢
  match xs, h with
  | [x0], h =>
    obtain ⟨⟨_, s0⟩, _⟩ := h
    obtain ⟨s, rfl, hs⟩ := shape_str Try.underlying9 s0
    exact ⟨_, _, by simpa [argDVs, elemDV, Try.underlying9] using FnExactNameOk_eq [] s (by unfold maxLen at hs; omega)⟩
set_option maxRecDepth 100000 in
theorem liftedNameOk (os : Os) (started : os.Started) (H : Type) (enc : TypeId × Value → H) :
    ReturnsInHanded {} Try.checked os 4 .any (Rows.fnExactNameOkSpec.pre6 enc Try.prog Try.f4 Rows.fnExactNameOkRow.domain false) (Rows.fnExactNameOkSpec.post enc Try.prog Try.f4 false true false false) :=
  law_lifted (C := Try.checked) (k := 58) (E := E) (S := [9]) (tb := 4) env_ok (by kernel_rfl) started (by kernel_rfl) rfl (by kernel_rfl) Try.func4 rfl (by kernel_rfl) (by kernel_rfl) (by kernel_rfl) (by kernel_rfl) Try.underlying4
    (fun ds hd => by match ds, hd with | [a], _ => rfl)
    (ChangeSpec.witness6 (enc := enc) (C := Try.checked) false ⟨#[], #[.string ByteArray.empty], []⟩ 8 (by kernel_rfl) (by kernel_rfl) (by kernel_rfl) (by kernel_rfl))
    plainNameOk
theorem overNameOk : Rows.fnExactNameOkRow.holds Try.pinned (OpenSpec.ofChange Rows.fnExactNameOkSpec) :=
  OpenClaim.holds_of_wide 4 Try.f4 rfl rfl rfl rfl rfl rfl rfl ⟨rfl, rfl, rfl, rfl, rfl⟩ rfl rfl rfl rfl rfl (by kernel_rfl) Try.func4 (by kernel_rfl)
    (of_decide_eq_true (by kernel_rfl)) (by unfold Func.isWrapper; first | (rw [if_pos (by decide +kernel)]; kernel_rfl) | (rw [if_neg (by decide +kernel)]; exact ⟨rfl, rfl⟩))
    (fun os started H enc _ => liftedNameOk os started H enc)
end Go.Proofs.Ytgdclabfecmmmaa.VS
namespace Go.Proofs.Ytgdclabfecmmmaa
theorem fnExactNameOk_said : Rows.FnExactNameOkSaid := VS.overNameOk
#print axioms fnExactNameOk_said
end Go.Proofs.Ytgdclabfecmmmaa
