/- Whatever its arguments are, FnExactNumsText returns true, and they read behind the call as before. Condition: none beyond the given row's. -/
import Derived.Test.YtpmjooeehnmkcaaRows
import Derived.Test.YtpmjooeehnmkcaaOk
import Derived.Test.YtpmjooeehnmkcaaLin
import Derived.Test.YtpmjooeehnmkcaaXTerm
import Derived.Test.YtpmjooeehnmkcaaXTerm2
import Derived.Test.YtpmjooeehnmkcaaXTerm3
import Derived.Test.YtpmjooeehnmkcaaXSame
import Derived.Test.YtpmjooeehnmkcaaXSig
import Derived.Test.YtpmjooeehnmkcaaXDigits
import Derived.Test.YtpmjooeehnmkcaaXInts
import Derived.Test.YtpmjooeehnmkcaaXText
import Derived.Test.YtpmjooeehnmkcaaXNums
import Derived.Test.YtpmjooeehnmkcaaXLaw
namespace Go.Proofs.Ytpmjooeehnmkcaa.VS
set_option linter.unusedVariables false
set_option linter.unusedSimpArgs false
theorem plainFnExactNumsText (xs : List (List DV)) (h : Args Try.prog Try.f7.params.toList xs) : ∃ A B, callV E [] 119 (argDVs Try.prog Try.f7.params.toList xs) [] Ids.none = some ⟨.d (.bool true), A, B⟩ := by
  rw [Try.params7] at h ⊢
  obtain ⟨x0, rfl⟩ := args1 h
  obtain ⟨⟨_, s0⟩, _⟩ := h
  obtain ⟨g0, a0, rfl, h0, o0⟩ := shape_ints Try.underlying49 Try.underlying3 s0
  obtain ⟨B, h⟩ := FnExactNumsText_x a0 h0 o0
  obtain ⟨A, B', h2⟩ := plain_of_X xok (k := 119) (vs := [ints g0 a0]) ⟨B, by simpa [DV.clrs, clr_str, clr_int, clr_ints] using h⟩
  exact ⟨A, B', by simpa [argDVs, elemDV, TT.enc, Try.underlying49] using h2⟩
set_option maxRecDepth 100000 in
theorem liftedFnExactNumsText (os : Os) (started : os.Started) (H : Type) (enc : TypeId × Value → H) :
    ReturnsInHanded {} Try.checked os 7 .any (Rows.fnExactNumsTextSpec.pre6 enc Try.prog Try.f7 Rows.fnExactNumsTextRow.domain false) (Rows.fnExactNumsTextSpec.post enc Try.prog Try.f7 false true false false) :=
  law_lifted (C := Try.checked) (k := 119) (E := E) (S := [49, 3]) (tb := 4) env_ok (by kernel_rfl) started (by kernel_rfl) rfl (by kernel_rfl) Try.func7 rfl (by kernel_rfl) (by kernel_rfl) (by kernel_rfl) (by kernel_rfl) Try.underlying4
    (fun ds hd => by match ds, hd with | [a0], _ => rfl)
    (ChangeSpec.witness6 (enc := enc) (C := Try.checked) false ⟨#[], #[.slice none 0 0], []⟩ 8 (by kernel_rfl) (by kernel_rfl) (by kernel_rfl) (by kernel_rfl))
    plainFnExactNumsText
theorem overFnExactNumsText : Rows.fnExactNumsTextRow.holds Try.pinned (OpenSpec.ofChange Rows.fnExactNumsTextSpec) :=
  OpenClaim.holds_of_wide 7 Try.f7 rfl rfl rfl rfl rfl rfl rfl ⟨rfl, rfl, rfl, rfl, rfl⟩ rfl rfl rfl rfl rfl (by kernel_rfl) Try.func7 (by kernel_rfl)
    (of_decide_eq_true (by kernel_rfl)) (by unfold Func.isWrapper; first | (rw [if_pos (by decide +kernel)]; kernel_rfl) | (rw [if_neg (by decide +kernel)]; exact ⟨rfl, rfl⟩))
    (fun os started H enc _ => liftedFnExactNumsText os started H enc)
end Go.Proofs.Ytpmjooeehnmkcaa.VS
namespace Go.Proofs.Ytpmjooeehnmkcaa
theorem fnExactNumsText_said : Rows.FnExactNumsTextSaid := VS.overFnExactNumsText
#print axioms fnExactNumsText_said
end Go.Proofs.Ytpmjooeehnmkcaa
