/- Whatever its arguments are, FnExactNumber returns true, and they read behind the call as before. Condition: none beyond the given row's. -/
import Derived.Test.YtgdclabfecmmmaaRows
import Derived.Test.YtgdclabfecmmmaaOk
import Derived.Test.YtgdclabfecmmmaaLin
import Derived.Test.YtgdclabfecmmmaaXTerm
import Derived.Test.YtgdclabfecmmmaaXTerm2
import Derived.Test.YtgdclabfecmmmaaXSig
import Derived.Test.YtgdclabfecmmmaaXName
import Derived.Test.YtgdclabfecmmmaaXDigits
import Derived.Test.YtgdclabfecmmmaaXNum
import Derived.Test.YtgdclabfecmmmaaXLaw
namespace Go.Proofs.Ytgdclabfecmmmaa.VS
set_option linter.unusedVariables false
set_option linter.unusedSimpArgs false
theorem plainFnExactNumber (xs : List (List DV)) (h : Args Try.prog Try.f9.params.toList xs) : ∃ A B, callV E [] 35 (argDVs Try.prog Try.f9.params.toList xs) [] Ids.none = some ⟨.d (.bool true), A, B⟩ := by
  rw [Try.params9] at h ⊢
  obtain ⟨x0, rfl⟩ := args1 h
  obtain ⟨⟨_, s0⟩, _⟩ := h
  obtain ⟨a0, rfl, h0⟩ := shape_str Try.underlying9 s0
  obtain ⟨B, h⟩ := FnExactNumber_x a0 h0
  obtain ⟨A, B', h2⟩ := plain_of_X xok (k := 35) (vs := [.str a0]) ⟨B, by simpa [DV.clrs, clr_str, clr_int] using h⟩
  exact ⟨A, B', by simpa [argDVs, elemDV, TT.enc, Try.underlying9] using h2⟩
set_option maxRecDepth 100000 in
theorem liftedFnExactNumber (os : Os) (started : os.Started) (H : Type) (enc : TypeId × Value → H) :
    ReturnsInHanded {} Try.checked os 9 .any (Rows.fnExactNumberSpec.pre6 enc Try.prog Try.f9 Rows.fnExactNumberRow.domain false) (Rows.fnExactNumberSpec.post enc Try.prog Try.f9 false true false false) :=
  law_lifted (C := Try.checked) (k := 35) (E := E) (S := [9]) (tb := 4) env_ok (by kernel_rfl) started (by kernel_rfl) rfl (by kernel_rfl) Try.func9 rfl (by kernel_rfl) (by kernel_rfl) (by kernel_rfl) (by kernel_rfl) Try.underlying4
    (fun ds hd => by match ds, hd with | [a0], _ => rfl)
    (ChangeSpec.witness6 (enc := enc) (C := Try.checked) false ⟨#[], #[.string ByteArray.empty], []⟩ 8 (by kernel_rfl) (by kernel_rfl) (by kernel_rfl) (by kernel_rfl))
    plainFnExactNumber
theorem overFnExactNumber : Rows.fnExactNumberRow.holds Try.pinned (OpenSpec.ofChange Rows.fnExactNumberSpec) :=
  OpenClaim.holds_of_wide 9 Try.f9 rfl rfl rfl rfl rfl rfl rfl ⟨rfl, rfl, rfl, rfl, rfl⟩ rfl rfl rfl rfl rfl (by kernel_rfl) Try.func9 (by kernel_rfl)
    (of_decide_eq_true (by kernel_rfl)) (by unfold Func.isWrapper; first | (rw [if_pos (by decide +kernel)]; kernel_rfl) | (rw [if_neg (by decide +kernel)]; exact ⟨rfl, rfl⟩))
    (fun os started H enc _ => liftedFnExactNumber os started H enc)
end Go.Proofs.Ytgdclabfecmmmaa.VS
namespace Go.Proofs.Ytgdclabfecmmmaa
theorem fnExactNumber_said : Rows.FnExactNumberSaid := VS.overFnExactNumber
#print axioms fnExactNumber_said
end Go.Proofs.Ytgdclabfecmmmaa
