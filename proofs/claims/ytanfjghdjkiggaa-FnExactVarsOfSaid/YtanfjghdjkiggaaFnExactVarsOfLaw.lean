/- Whatever its arguments are, FnExactVarsOf returns true, and they read behind the call as before. Condition: none beyond the given row's. -/
import Derived.Test.YtanfjghdjkiggaaRows
import Derived.Test.YtanfjghdjkiggaaEnv
import Derived.Test.YtanfjghdjkiggaaLin
import Derived.Test.YtanfjghdjkiggaaXTerm
import Derived.Test.YtanfjghdjkiggaaXTerm2
import Derived.Test.YtanfjghdjkiggaaXTerm3
import Derived.Test.YtanfjghdjkiggaaXSame
import Derived.Test.YtanfjghdjkiggaaXEach
import Derived.Test.YtanfjghdjkiggaaXParts
import Derived.Test.YtanfjghdjkiggaaXCount
import Derived.Test.YtanfjghdjkiggaaXSig
import Derived.Test.YtanfjghdjkiggaaXName
import Derived.Test.YtanfjghdjkiggaaXSigOk
import Derived.Test.YtanfjghdjkiggaaXInts
import Derived.Test.YtanfjghdjkiggaaXNumA
import Derived.Test.YtanfjghdjkiggaaNumW
import Derived.Test.YtanfjghdjkiggaaXVars
import Derived.Test.YtanfjghdjkiggaaXMarkI
import Derived.Test.YtanfjghdjkiggaaXNumLaw
import Derived.Test.YtanfjghdjkiggaaXMarkT
import Derived.Test.YtanfjghdjkiggaaXHeldT
import Derived.Test.YtanfjghdjkiggaaXFrzT
import Derived.Test.YtanfjghdjkiggaaXVarsLaw
import Derived.Test.YtanfjghdjkiggaaXLit
import Derived.Test.YtanfjghdjkiggaaXBind
import Derived.Test.YtanfjghdjkiggaaXLaw
import Derived.Test.YtanfjghdjkiggaaXShape
namespace Go.Proofs.Ytanfjghdjkiggaa.VS
set_option linter.unusedVariables false
set_option linter.unusedSimpArgs false
theorem plainFnExactVarsOf (xs : List (List DV)) (h : Args Try.prog Try.f6.params.toList xs) : ∃ A B, callV E [] 343 (argDVs Try.prog Try.f6.params.toList xs) [] Ids.none = some ⟨.d (.bool true), A, B⟩ := by
  rw [Try.params6] at h ⊢
  obtain ⟨x0, rfl⟩ := args1 h
  obtain ⟨⟨_, s0⟩, _⟩ := h
  obtain ⟨a0, rfl, h0⟩ := (shape_term Try.underlying49 (by kernel_rfl) Try.underlying3 Try.underlying47 (by refine ⟨?_, ?_, ?_⟩ <;> kernel_rfl) _ _ (Nat.lt_succ_self _)) s0
  obtain ⟨B, h⟩ := FnExactVarsOf_x a0.erase (TT.ok_erase _ h0)
  obtain ⟨A, B', h2⟩ := plain_of_X xok (k := 343) (vs := [a0.enc]) ⟨B, by simpa [DV.clrs, clr_str, clr_int, TT.clr_enc] using h⟩
  exact ⟨A, B', by simpa [argDVs, elemDV, TT.enc, Try.underlying49] using h2⟩
set_option maxRecDepth 100000 in
theorem liftedFnExactVarsOf (os : Os) (started : os.Started) (H : Type) (enc : TypeId × Value → H) :
    ReturnsInHanded {} Try.checked os 6 .any (Rows.fnExactVarsOfSpec.pre6 enc Try.prog Try.f6 Rows.fnExactVarsOfRow.domain false) (Rows.fnExactVarsOfSpec.post enc Try.prog Try.f6 false true false false) :=
  law_lifted (C := Try.checked) (k := 343) (E := E) (S := [49, 3, 47]) (tb := 4) env_ok (by kernel_rfl) started (by kernel_rfl) rfl (by kernel_rfl) Try.func6 rfl (by kernel_rfl) (by kernel_rfl) (by kernel_rfl) (by kernel_rfl) Try.underlying4
    (fun ds hd => by match ds, hd with | [a0], _ => rfl)
    (ChangeSpec.witness6 (enc := enc) (C := Try.checked) false ⟨#[], #[.agg #[.int .i64 0, .int .i64 0, .slice none 0 0]], []⟩ 8 (by kernel_rfl) (by kernel_rfl) (by kernel_rfl) (by kernel_rfl))
    plainFnExactVarsOf
theorem overFnExactVarsOf : Rows.fnExactVarsOfRow.holds Try.pinned (OpenSpec.ofChange Rows.fnExactVarsOfSpec) :=
  OpenClaim.holds_of_wide 6 Try.f6 rfl rfl rfl rfl rfl rfl rfl ⟨rfl, rfl, rfl, rfl, rfl⟩ rfl rfl rfl rfl rfl (by kernel_rfl) Try.func6 (by kernel_rfl)
    (of_decide_eq_true (by kernel_rfl)) (by unfold Func.isWrapper; first | (rw [if_pos (by decide +kernel)]; kernel_rfl) | (rw [if_neg (by decide +kernel)]; exact ⟨rfl, rfl⟩))
    (fun os started H enc _ => liftedFnExactVarsOf os started H enc)
end Go.Proofs.Ytanfjghdjkiggaa.VS
namespace Go.Proofs.Ytanfjghdjkiggaa
theorem fnExactVarsOf_said : Rows.FnExactVarsOfSaid := VS.overFnExactVarsOf
#print axioms fnExactVarsOf_said
end Go.Proofs.Ytanfjghdjkiggaa
