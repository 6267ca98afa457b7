/- Whatever its arguments are, FnTerms returns true, and they read behind the call as before. Condition: none beyond the given row's. -/
import Derived.Test.YtidlpcgcolcfgaaRows
import Derived.Test.YtidlpcgcolcfgaaEnv
import Derived.Test.YtidlpcgcolcfgaaLin
import Derived.Test.YtidlpcgcolcfgaaXP1
import Derived.Test.YtidlpcgcolcfgaaXP2
import Derived.Test.YtidlpcgcolcfgaaXP3
namespace Go.Proofs.Ytidlpcgcolcfgaa.VS
set_option linter.unusedVariables false
set_option linter.unusedSimpArgs false
theorem plainFnTerms (xs : List (List DV)) (h : Args Try.prog Try.f5.params.toList xs) : ∃ A B, callV E [] 181 (argDVs Try.prog Try.f5.params.toList xs) [] Ids.none = some ⟨.d (.bool true), A, B⟩ := by
  rw [Try.params5] at h ⊢
  obtain ⟨x0, rfl⟩ := args1 h
  obtain ⟨⟨_, s0⟩, _⟩ := h
  obtain ⟨g0, a0, rfl, h0⟩ := shape_bytes Try.underlying22 Try.underlying5 s0
  obtain ⟨B, h⟩ := FnTerms_x a0 h0
  obtain ⟨A, B', h2⟩ := plain_of_X xok (k := 181) (vs := [bytesL g0 a0]) ⟨B, by simpa [DV.clrs, clr_str, clr_int, clr_bytesL] using h⟩
  exact ⟨A, B', by simpa [argDVs, elemDV, TT.enc, Try.underlying22] using h2⟩
set_option maxRecDepth 100000 in
theorem liftedFnTerms (os : Os) (started : os.Started) (H : Type) (enc : TypeId × Value → H) :
    ReturnsInHanded {} Try.checked os 5 .any (Rows.fnTermsSpec.pre6 enc Try.prog Try.f5 Rows.fnTermsRow.domain false) (Rows.fnTermsSpec.post enc Try.prog Try.f5 false true false false) :=
  law_lifted (C := Try.checked) (k := 181) (E := E) (S := [22, 5]) (tb := 4) env_ok (by kernel_rfl) started (by kernel_rfl) rfl (by kernel_rfl) Try.func5 rfl (by kernel_rfl) (by kernel_rfl) (by kernel_rfl) (by kernel_rfl) Try.underlying4
    (fun ds hd => by match ds, hd with | [a0], _ => rfl)
    (ChangeSpec.witness6 (enc := enc) (C := Try.checked) false ⟨#[], #[.slice none 0 0], []⟩ 8 (by kernel_rfl) (by kernel_rfl) (by kernel_rfl) (by kernel_rfl))
    plainFnTerms
theorem overFnTerms : Rows.fnTermsRow.holds Try.pinned (OpenSpec.ofChange Rows.fnTermsSpec) :=
  OpenClaim.holds_of_wide 5 Try.f5 rfl rfl rfl rfl rfl rfl rfl ⟨rfl, rfl, rfl, rfl, rfl⟩ rfl rfl rfl rfl rfl (by kernel_rfl) Try.func5 (by kernel_rfl)
    (of_decide_eq_true (by kernel_rfl)) (by unfold Func.isWrapper; first | (rw [if_pos (by decide +kernel)]; kernel_rfl) | (rw [if_neg (by decide +kernel)]; exact ⟨rfl, rfl⟩))
    (fun os started H enc _ => liftedFnTerms os started H enc)
end Go.Proofs.Ytidlpcgcolcfgaa.VS
namespace Go.Proofs.Ytidlpcgcolcfgaa
theorem fnTerms_said : Rows.FnTermsSaid := VS.overFnTerms
#print axioms fnTerms_said
end Go.Proofs.Ytidlpcgcolcfgaa
