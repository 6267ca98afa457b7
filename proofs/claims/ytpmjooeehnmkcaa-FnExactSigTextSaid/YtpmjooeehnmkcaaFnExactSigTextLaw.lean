/- Whatever its arguments are, FnExactSigText returns true, and they read behind the call as before. Condition: none beyond the given row's. -/
import Derived.Test.YtpmjooeehnmkcaaRows
import Derived.Test.YtpmjooeehnmkcaaOk
import Derived.Test.YtpmjooeehnmkcaaLin
import Derived.Test.YtpmjooeehnmkcaaXTerm
import Derived.Test.YtpmjooeehnmkcaaXTerm2
import Derived.Test.YtpmjooeehnmkcaaXTerm3
import Derived.Test.YtpmjooeehnmkcaaXSame
import Derived.Test.YtpmjooeehnmkcaaXSig
import Derived.Test.YtpmjooeehnmkcaaXName
import Derived.Test.YtpmjooeehnmkcaaXSigOk
import Derived.Test.YtpmjooeehnmkcaaXDigits
import Derived.Test.YtpmjooeehnmkcaaXInts
import Derived.Test.YtpmjooeehnmkcaaXText
import Derived.Test.YtpmjooeehnmkcaaXSigT
import Derived.Test.YtpmjooeehnmkcaaXLaw
namespace Go.Proofs.Ytpmjooeehnmkcaa.VS
set_option linter.unusedVariables false
set_option linter.unusedSimpArgs false
theorem plainFnExactSigText (xs : List (List DV)) (h : Args Try.prog Try.f9.params.toList xs) : ∃ A B, callV E [] 113 (argDVs Try.prog Try.f9.params.toList xs) [] Ids.none = some ⟨.d (.bool true), A, B⟩ := by
  rw [Try.params9] at h ⊢
  obtain ⟨x0, rfl⟩ := args1 h
  obtain ⟨⟨_, s0⟩, _⟩ := h
  obtain ⟨g0, a0, rfl, h0, o0⟩ := (shape_syms Try.underlying34 Try.underlying78 (by kernel_rfl) Try.underlying9 Try.underlying3 Try.underlying4 (by refine ⟨?_, ?_, ?_, ?_⟩ <;> kernel_rfl)) s0
  obtain ⟨B, h⟩ := FnExactSigText_x a0 h0 o0
  obtain ⟨A, B', h2⟩ := plain_of_X xok (k := 113) (vs := [syms g0 a0]) ⟨B, by simpa [DV.clrs, clr_str, clr_int, clr_syms] using h⟩
  exact ⟨A, B', by simpa [argDVs, elemDV, TT.enc, Try.underlying34] using h2⟩
set_option maxRecDepth 100000 in
theorem liftedFnExactSigText (os : Os) (started : os.Started) (H : Type) (enc : TypeId × Value → H) :
    ReturnsInHanded {} Try.checked os 9 .any (Rows.fnExactSigTextSpec.pre6 enc Try.prog Try.f9 Rows.fnExactSigTextRow.domain false) (Rows.fnExactSigTextSpec.post enc Try.prog Try.f9 false true false false) :=
  law_lifted (C := Try.checked) (k := 113) (E := E) (S := [34, 78, 9, 3, 4]) (tb := 4) env_ok (by kernel_rfl) started (by kernel_rfl) rfl (by kernel_rfl) Try.func9 rfl (by kernel_rfl) (by kernel_rfl) (by kernel_rfl) (by kernel_rfl) Try.underlying4
    (fun ds hd => by match ds, hd with | [a0], _ => rfl)
    (ChangeSpec.witness6 (enc := enc) (C := Try.checked) false ⟨#[], #[.slice none 0 0], []⟩ 8 (by kernel_rfl) (by kernel_rfl) (by kernel_rfl) (by kernel_rfl))
    plainFnExactSigText
theorem overFnExactSigText : Rows.fnExactSigTextRow.holds Try.pinned (OpenSpec.ofChange Rows.fnExactSigTextSpec) :=
  OpenClaim.holds_of_wide 9 Try.f9 rfl rfl rfl rfl rfl rfl rfl ⟨rfl, rfl, rfl, rfl, rfl⟩ rfl rfl rfl rfl rfl (by kernel_rfl) Try.func9 (by kernel_rfl)
    (of_decide_eq_true (by kernel_rfl)) (by unfold Func.isWrapper; first | (rw [if_pos (by decide +kernel)]; kernel_rfl) | (rw [if_neg (by decide +kernel)]; exact ⟨rfl, rfl⟩))
    (fun os started H enc _ => liftedFnExactSigText os started H enc)
end Go.Proofs.Ytpmjooeehnmkcaa.VS
namespace Go.Proofs.Ytpmjooeehnmkcaa
theorem fnExactSigText_said : Rows.FnExactSigTextSaid := VS.overFnExactSigText
#print axioms fnExactSigText_said
end Go.Proofs.Ytpmjooeehnmkcaa
