/- Whatever its arguments are, FnExactTermOk returns true, and they read behind the call as before. Condition: none beyond the given row's. -/
import Derived.Test.YtpmjooeehnmkcaaRows
import Derived.Test.YtpmjooeehnmkcaaOk
import Derived.Test.YtpmjooeehnmkcaaLin
import Derived.Test.YtpmjooeehnmkcaaXTerm
import Derived.Test.YtpmjooeehnmkcaaXTerm2
import Derived.Test.YtpmjooeehnmkcaaXTerm3
import Derived.Test.YtpmjooeehnmkcaaXSame
import Derived.Test.YtpmjooeehnmkcaaXEach
import Derived.Test.YtpmjooeehnmkcaaXParts
import Derived.Test.YtpmjooeehnmkcaaXCount
import Derived.Test.YtpmjooeehnmkcaaXSig
import Derived.Test.YtpmjooeehnmkcaaXName
import Derived.Test.YtpmjooeehnmkcaaXSigOk
import Derived.Test.YtpmjooeehnmkcaaXWeight
import Derived.Test.YtpmjooeehnmkcaaXBefore
import Derived.Test.YtpmjooeehnmkcaaXForm
import Derived.Test.YtpmjooeehnmkcaaXLit
import Derived.Test.YtpmjooeehnmkcaaXLaw
import Derived.Test.YtpmjooeehnmkcaaXShape
namespace Go.Proofs.Ytpmjooeehnmkcaa.VS
set_option linter.unusedVariables false
set_option linter.unusedSimpArgs false
theorem plainFnExactTermOk (xs : List (List DV)) (h : Args Try.prog Try.f12.params.toList xs) : ∃ A B, callV E [] 99 (argDVs Try.prog Try.f12.params.toList xs) [] Ids.none = some ⟨.d (.bool true), A, B⟩ := by
  rw [Try.params12] at h ⊢
  obtain ⟨x0, x1, rfl⟩ := args2 h
  obtain ⟨⟨_, s0⟩, ⟨⟨_, s1⟩, _⟩⟩ := h
  obtain ⟨g0, a0, rfl, h0, o0⟩ := (shape_syms Try.underlying34 Try.underlying78 (by kernel_rfl) Try.underlying9 Try.underlying3 Try.underlying4 (by refine ⟨?_, ?_, ?_, ?_⟩ <;> kernel_rfl)) s0
  obtain ⟨a1, rfl, h1⟩ := (shape_term Try.underlying24 (by kernel_rfl) Try.underlying3 Try.underlying22 (by refine ⟨?_, ?_, ?_⟩ <;> kernel_rfl) _ _ (Nat.lt_succ_self _)) s1
  obtain ⟨B, h⟩ := FnExactTermOk_x a0 h0 o0 a1.erase (TT.ok_erase _ h1)
  obtain ⟨A, B', h2⟩ := plain_of_X xok (k := 99) (vs := [syms g0 a0, a1.enc]) ⟨B, by simpa [DV.clrs, clr_str, clr_int, clr_syms, TT.clr_enc] using h⟩
  exact ⟨A, B', by simpa [argDVs, elemDV, TT.enc, Try.underlying24, Try.underlying34] using h2⟩
set_option maxRecDepth 100000 in
theorem liftedFnExactTermOk (os : Os) (started : os.Started) (H : Type) (enc : TypeId × Value → H) :
    ReturnsInHanded {} Try.checked os 12 .any (Rows.fnExactTermOkSpec.pre6 enc Try.prog Try.f12 Rows.fnExactTermOkRow.domain false) (Rows.fnExactTermOkSpec.post enc Try.prog Try.f12 false true false false) :=
  law_lifted (C := Try.checked) (k := 99) (E := E) (S := [34, 78, 9, 3, 4, 24, 22]) (tb := 4) env_ok (by kernel_rfl) started (by kernel_rfl) rfl (by kernel_rfl) Try.func12 rfl (by kernel_rfl) (by kernel_rfl) (by kernel_rfl) (by kernel_rfl) Try.underlying4
    (fun ds hd => by match ds, hd with | [a0, a1], _ => rfl)
    (ChangeSpec.witness6 (enc := enc) (C := Try.checked) false ⟨#[], #[.slice none 0 0, .agg #[.int .i64 0, .int .i64 0, .slice none 0 0]], []⟩ 8 (by kernel_rfl) (by kernel_rfl) (by kernel_rfl) (by kernel_rfl))
    plainFnExactTermOk
theorem overFnExactTermOk : Rows.fnExactTermOkRow.holds Try.pinned (OpenSpec.ofChange Rows.fnExactTermOkSpec) :=
  OpenClaim.holds_of_wide 12 Try.f12 rfl rfl rfl rfl rfl rfl rfl ⟨rfl, rfl, rfl, rfl, rfl⟩ rfl rfl rfl rfl rfl (by kernel_rfl) Try.func12 (by kernel_rfl)
    (of_decide_eq_true (by kernel_rfl)) (by unfold Func.isWrapper; first | (rw [if_pos (by decide +kernel)]; kernel_rfl) | (rw [if_neg (by decide +kernel)]; exact ⟨rfl, rfl⟩))
    (fun os started H enc _ => liftedFnExactTermOk os started H enc)
end Go.Proofs.Ytpmjooeehnmkcaa.VS
namespace Go.Proofs.Ytpmjooeehnmkcaa
theorem fnExactTermOk_said : Rows.FnExactTermOkSaid := VS.overFnExactTermOk
#print axioms fnExactTermOk_said
end Go.Proofs.Ytpmjooeehnmkcaa
