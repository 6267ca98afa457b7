/- Whatever its arguments are, FnExactGreater returns true, and they read behind the call as before. Condition: none beyond the given row's. -/
import Derived.Test.YtanfjghdjkiggaaRows
import Derived.Test.YtanfjghdjkiggaaEnv
import Derived.Test.YtanfjghdjkiggaaLin
import Derived.Test.YtanfjghdjkiggaaXTerm
import Derived.Test.YtanfjghdjkiggaaXTerm2
import Derived.Test.YtanfjghdjkiggaaXTerm3
import Derived.Test.YtanfjghdjkiggaaXSame
import Derived.Test.YtanfjghdjkiggaaXEach
import Derived.Test.YtanfjghdjkiggaaXParts
import Derived.Test.YtanfjghdjkiggaaXCount
import Derived.Test.YtanfjghdjkiggaaXSig
import Derived.Test.YtanfjghdjkiggaaXName
import Derived.Test.YtanfjghdjkiggaaXSigOk
import Derived.Test.YtanfjghdjkiggaaXWeight
import Derived.Test.YtanfjghdjkiggaaXBefore
import Derived.Test.YtanfjghdjkiggaaXForm
import Derived.Test.YtanfjghdjkiggaaXInts
import Derived.Test.YtanfjghdjkiggaaXNumA
import Derived.Test.YtanfjghdjkiggaaNumW
import Derived.Test.YtanfjghdjkiggaaXVars
import Derived.Test.YtanfjghdjkiggaaXGreater
import Derived.Test.YtanfjghdjkiggaaXLit
import Derived.Test.YtanfjghdjkiggaaXBind
import Derived.Test.YtanfjghdjkiggaaXLaw
import Derived.Test.YtanfjghdjkiggaaXShape
namespace Go.Proofs.Ytanfjghdjkiggaa.VS
set_option linter.unusedVariables false
set_option linter.unusedSimpArgs false
theorem plainFnExactGreater (xs : List (List DV)) (h : Args Try.prog Try.f7.params.toList xs) : ∃ A B, callV E [] 342 (argDVs Try.prog Try.f7.params.toList xs) [] Ids.none = some ⟨.d (.bool true), A, B⟩ := by
  rw [Try.params7] at h ⊢
  obtain ⟨x0, x1, x2, rfl⟩ := args3 h
  obtain ⟨⟨_, s0⟩, ⟨⟨_, s1⟩, ⟨⟨_, s2⟩, _⟩⟩⟩ := h
  obtain ⟨g0, a0, rfl, h0, o0⟩ := (shape_syms Try.underlying54 Try.underlying89 (by kernel_rfl) Try.underlying9 Try.underlying3 Try.underlying4 (by refine ⟨?_, ?_, ?_, ?_⟩ <;> kernel_rfl)) s0
  obtain ⟨a1, rfl, h1⟩ := (shape_term Try.underlying49 (by kernel_rfl) Try.underlying3 Try.underlying47 (by refine ⟨?_, ?_, ?_⟩ <;> kernel_rfl) _ _ (Nat.lt_succ_self _)) s1
  obtain ⟨a2, rfl, h2⟩ := (shape_term Try.underlying49 (by kernel_rfl) Try.underlying3 Try.underlying47 (by refine ⟨?_, ?_, ?_⟩ <;> kernel_rfl) _ _ (Nat.lt_succ_self _)) s2
  obtain ⟨B, h⟩ := FnExactGreater_x a0 h0 o0 a1.erase (TT.ok_erase _ h1) a2.erase (TT.ok_erase _ h2)
  obtain ⟨A, B', h2⟩ := plain_of_X xok (k := 342) (vs := [syms g0 a0, a1.enc, a2.enc]) ⟨B, by simpa [DV.clrs, clr_str, clr_int, clr_syms, TT.clr_enc] using h⟩
  exact ⟨A, B', by simpa [argDVs, elemDV, TT.enc, Try.underlying49, Try.underlying54] using h2⟩
set_option maxRecDepth 100000 in
theorem liftedFnExactGreater (os : Os) (started : os.Started) (H : Type) (enc : TypeId × Value → H) :
    ReturnsInHanded {} Try.checked os 7 .any (Rows.fnExactGreaterSpec.pre6 enc Try.prog Try.f7 Rows.fnExactGreaterRow.domain false) (Rows.fnExactGreaterSpec.post enc Try.prog Try.f7 false true false false) :=
  law_lifted (C := Try.checked) (k := 342) (E := E) (S := [54, 89, 9, 3, 4, 49, 47]) (tb := 4) env_ok (by kernel_rfl) started (by kernel_rfl) rfl (by kernel_rfl) Try.func7 rfl (by kernel_rfl) (by kernel_rfl) (by kernel_rfl) (by kernel_rfl) Try.underlying4
    (fun ds hd => by match ds, hd with | [a0, a1, a2], _ => rfl)
    (ChangeSpec.witness6 (enc := enc) (C := Try.checked) false ⟨#[], #[.slice none 0 0, .agg #[.int .i64 0, .int .i64 0, .slice none 0 0], .agg #[.int .i64 0, .int .i64 0, .slice none 0 0]], []⟩ 8 (by kernel_rfl) (by kernel_rfl) (by kernel_rfl) (by kernel_rfl))
    plainFnExactGreater
theorem overFnExactGreater : Rows.fnExactGreaterRow.holds Try.pinned (OpenSpec.ofChange Rows.fnExactGreaterSpec) :=
  OpenClaim.holds_of_wide 7 Try.f7 rfl rfl rfl rfl rfl rfl rfl ⟨rfl, rfl, rfl, rfl, rfl⟩ rfl rfl rfl rfl rfl (by kernel_rfl) Try.func7 (by kernel_rfl)
    (of_decide_eq_true (by kernel_rfl)) (by unfold Func.isWrapper; first | (rw [if_pos (by decide +kernel)]; kernel_rfl) | (rw [if_neg (by decide +kernel)]; exact ⟨rfl, rfl⟩))
    (fun os started H enc _ => liftedFnExactGreater os started H enc)
end Go.Proofs.Ytanfjghdjkiggaa.VS
namespace Go.Proofs.Ytanfjghdjkiggaa
theorem fnExactGreater_said : Rows.FnExactGreaterSaid := VS.overFnExactGreater
#print axioms fnExactGreater_said
end Go.Proofs.Ytanfjghdjkiggaa
