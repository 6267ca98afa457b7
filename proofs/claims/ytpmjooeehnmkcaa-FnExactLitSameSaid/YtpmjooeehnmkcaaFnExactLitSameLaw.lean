/- Whatever its arguments are, FnExactLitSame returns true, and they read behind the call as before. Condition: none beyond the given row's. -/
import Derived.Test.YtpmjooeehnmkcaaRows
import Derived.Test.YtpmjooeehnmkcaaOk
import Derived.Test.YtpmjooeehnmkcaaLin
import Derived.Test.YtpmjooeehnmkcaaXTerm
import Derived.Test.YtpmjooeehnmkcaaXTerm2
import Derived.Test.YtpmjooeehnmkcaaXTerm3
import Derived.Test.YtpmjooeehnmkcaaXSame
import Derived.Test.YtpmjooeehnmkcaaXEach
import Derived.Test.YtpmjooeehnmkcaaXParts
import Derived.Test.YtpmjooeehnmkcaaXCount
import Derived.Test.YtpmjooeehnmkcaaXSig
import Derived.Test.YtpmjooeehnmkcaaXName
import Derived.Test.YtpmjooeehnmkcaaXSigOk
import Derived.Test.YtpmjooeehnmkcaaXWeight
import Derived.Test.YtpmjooeehnmkcaaXBefore
import Derived.Test.YtpmjooeehnmkcaaXForm
import Derived.Test.YtpmjooeehnmkcaaXLit
import Derived.Test.YtpmjooeehnmkcaaXLaw
import Derived.Test.YtpmjooeehnmkcaaXShape
namespace Go.Proofs.Ytpmjooeehnmkcaa.VS
set_option linter.unusedVariables false
set_option linter.unusedSimpArgs false
theorem plainFnExactLitSame (xs : List (List DV)) (h : Args Try.prog Try.f6.params.toList xs) : ∃ A B, callV E [] 122 (argDVs Try.prog Try.f6.params.toList xs) [] Ids.none = some ⟨.d (.bool true), A, B⟩ := by
  rw [Try.params6] at h ⊢
  obtain ⟨x0, x1, rfl⟩ := args2 h
  obtain ⟨⟨_, s0⟩, ⟨⟨_, s1⟩, _⟩⟩ := h
  obtain ⟨a0, rfl, h0⟩ := shape_lit Try.underlying42 (by kernel_rfl) Try.underlying4 (fun x => (shape_term Try.underlying24 (by kernel_rfl) Try.underlying3 Try.underlying22 (by refine ⟨?_, ?_, ?_⟩ <;> kernel_rfl) _ _ (Nat.lt_succ_self _))) (by refine ⟨?_, ?_, ?_⟩ <;> kernel_rfl) s0
  obtain ⟨a1, rfl, h1⟩ := shape_lit Try.underlying42 (by kernel_rfl) Try.underlying4 (fun x => (shape_term Try.underlying24 (by kernel_rfl) Try.underlying3 Try.underlying22 (by refine ⟨?_, ?_, ?_⟩ <;> kernel_rfl) _ _ (Nat.lt_succ_self _))) (by refine ⟨?_, ?_, ?_⟩ <;> kernel_rfl) s1
  obtain ⟨B, h⟩ := FnExactLitSame_x a0.erase (LL.ok_erase _ h0) a1.erase (LL.ok_erase _ h1)
  obtain ⟨A, B', h2⟩ := plain_of_X xok (k := 122) (vs := [a0.enc, a1.enc]) ⟨B, by simpa [DV.clrs, clr_str, clr_int, LL.clr_enc] using h⟩
  exact ⟨A, B', by simpa [argDVs, elemDV, LL.enc, Try.underlying42] using h2⟩
set_option maxRecDepth 100000 in
theorem liftedFnExactLitSame (os : Os) (started : os.Started) (H : Type) (enc : TypeId × Value → H) :
    ReturnsInHanded {} Try.checked os 6 .any (Rows.fnExactLitSameSpec.pre6 enc Try.prog Try.f6 Rows.fnExactLitSameRow.domain false) (Rows.fnExactLitSameSpec.post enc Try.prog Try.f6 false true false false) :=
  law_lifted (C := Try.checked) (k := 122) (E := E) (S := [42, 4, 24, 3, 22]) (tb := 4) env_ok (by kernel_rfl) started (by kernel_rfl) rfl (by kernel_rfl) Try.func6 rfl (by kernel_rfl) (by kernel_rfl) (by kernel_rfl) (by kernel_rfl) Try.underlying4
    (fun ds hd => by match ds, hd with | [a0, a1], _ => rfl)
    (ChangeSpec.witness6 (enc := enc) (C := Try.checked) false ⟨#[], #[.agg #[.bool false, .int .i64 0, .int .i64 0, .slice none 0 0, .int .i64 0, .int .i64 0, .slice none 0 0], .agg #[.bool false, .int .i64 0, .int .i64 0, .slice none 0 0, .int .i64 0, .int .i64 0, .slice none 0 0]], []⟩ 8 (by kernel_rfl) (by kernel_rfl) (by kernel_rfl) (by kernel_rfl))
    plainFnExactLitSame
theorem overFnExactLitSame : Rows.fnExactLitSameRow.holds Try.pinned (OpenSpec.ofChange Rows.fnExactLitSameSpec) :=
  OpenClaim.holds_of_wide 6 Try.f6 rfl rfl rfl rfl rfl rfl rfl ⟨rfl, rfl, rfl, rfl, rfl⟩ rfl rfl rfl rfl rfl (by kernel_rfl) Try.func6 (by kernel_rfl)
    (of_decide_eq_true (by kernel_rfl)) (by unfold Func.isWrapper; first | (rw [if_pos (by decide +kernel)]; kernel_rfl) | (rw [if_neg (by decide +kernel)]; exact ⟨rfl, rfl⟩))
    (fun os started H enc _ => liftedFnExactLitSame os started H enc)
end Go.Proofs.Ytpmjooeehnmkcaa.VS
namespace Go.Proofs.Ytpmjooeehnmkcaa
theorem fnExactLitSame_said : Rows.FnExactLitSameSaid := VS.overFnExactLitSame
#print axioms fnExactLitSame_said
end Go.Proofs.Ytpmjooeehnmkcaa
