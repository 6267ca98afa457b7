/- Whatever its arguments are, FnBasisSums returns true, and they read behind the call as before. Condition: none beyond the given row's. -/
import Derived.Test.YtficfeekkljoeaaRows
import Derived.Test.YtficfeekkljoeaaEnv
import Derived.Test.YtficfeekkljoeaaLin
import Derived.Test.YtficfeekkljoeaaXP1
import Derived.Test.YtficfeekkljoeaaXP2
namespace Go.Proofs.Ytficfeekkljoeaa.VS
set_option linter.unusedVariables false
set_option linter.unusedSimpArgs false
theorem plainFnBasisSums (xs : List (List DV)) (h : Args Try.prog Try.f4.params.toList xs) : ∃ A B, callV E [] 354 (argDVs Try.prog Try.f4.params.toList xs) [] Ids.none = some ⟨.d (.bool true), A, B⟩ := by
  rw [Try.params4] at h ⊢
  obtain ⟨x0, rfl⟩ := args1 h
  obtain ⟨⟨_, s0⟩, _⟩ := h
  obtain ⟨g0, a0, rfl, h0⟩ := shape_bytes Try.underlying31 Try.underlying5 s0
  obtain ⟨B, h⟩ := FnBasisSums_x a0 h0
  obtain ⟨A, B', h2⟩ := plain_of_X xok (k := 354) (vs := [bytesL g0 a0]) ⟨B, by simpa [DV.clrs, clr_str, clr_int, clr_bytesL] using h⟩
  exact ⟨A, B', by simpa [argDVs, elemDV, TT.enc, Try.underlying31] using h2⟩
set_option maxRecDepth 100000 in
theorem liftedFnBasisSums (os : Os) (started : os.Started) (H : Type) (enc : TypeId × Value → H) :
    ReturnsInHanded {} Try.checked os 4 .any (Rows.fnBasisSumsSpec.pre6 enc Try.prog Try.f4 Rows.fnBasisSumsRow.domain false) (Rows.fnBasisSumsSpec.post enc Try.prog Try.f4 false true false false) :=
  law_lifted (C := Try.checked) (k := 354) (E := E) (S := [31, 5]) (tb := 4) env_ok (by kernel_rfl) started (by kernel_rfl) rfl (by kernel_rfl) Try.func4 rfl (by kernel_rfl) (by kernel_rfl) (by kernel_rfl) (by kernel_rfl) Try.underlying4
    (fun ds hd => by match ds, hd with | [a0], _ => rfl)
    (ChangeSpec.witness6 (enc := enc) (C := Try.checked) false ⟨#[], #[.slice none 0 0], []⟩ 8 (by kernel_rfl) (by kernel_rfl) (by kernel_rfl) (by kernel_rfl))
    plainFnBasisSums
theorem overFnBasisSums : Rows.fnBasisSumsRow.holds Try.pinned (OpenSpec.ofChange Rows.fnBasisSumsSpec) :=
  OpenClaim.holds_of_wide 4 Try.f4 rfl rfl rfl rfl rfl rfl rfl ⟨rfl, rfl, rfl, rfl, rfl⟩ rfl rfl rfl rfl rfl (by kernel_rfl) Try.func4 (by kernel_rfl)
    (of_decide_eq_true (by kernel_rfl)) (by unfold Func.isWrapper; first | (rw [if_pos (by decide +kernel)]; kernel_rfl) | (rw [if_neg (by decide +kernel)]; exact ⟨rfl, rfl⟩))
    (fun os started H enc _ => liftedFnBasisSums os started H enc)
end Go.Proofs.Ytficfeekkljoeaa.VS
namespace Go.Proofs.Ytficfeekkljoeaa
theorem fnBasisSums_said : Rows.FnBasisSumsSaid := VS.overFnBasisSums
#print axioms fnBasisSums_said
end Go.Proofs.Ytficfeekkljoeaa
