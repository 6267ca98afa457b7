/- Whatever its arguments are, FnExactLook returns true, and they read behind the call as before. Condition: none beyond the given row's. -/
import Derived.Test.YtanfjghdjkiggaaRows
import Derived.Test.YtanfjghdjkiggaaEnv
import Derived.Test.YtanfjghdjkiggaaLin
import Derived.Test.YtanfjghdjkiggaaXTerm
import Derived.Test.YtanfjghdjkiggaaXTerm2
import Derived.Test.YtanfjghdjkiggaaXTerm3
import Derived.Test.YtanfjghdjkiggaaXSame
import Derived.Test.YtanfjghdjkiggaaXEach
import Derived.Test.YtanfjghdjkiggaaXParts
import Derived.Test.YtanfjghdjkiggaaXCount
import Derived.Test.YtanfjghdjkiggaaXSig
import Derived.Test.YtanfjghdjkiggaaXName
import Derived.Test.YtanfjghdjkiggaaXSigOk
import Derived.Test.YtanfjghdjkiggaaXForm
import Derived.Test.YtanfjghdjkiggaaXBind
import Derived.Test.YtanfjghdjkiggaaXInts
import Derived.Test.YtanfjghdjkiggaaXNumA
import Derived.Test.YtanfjghdjkiggaaNumW
import Derived.Test.YtanfjghdjkiggaaXVars
import Derived.Test.YtanfjghdjkiggaaXMarkI
import Derived.Test.YtanfjghdjkiggaaXNumLaw
import Derived.Test.YtanfjghdjkiggaaXMarkT
import Derived.Test.YtanfjghdjkiggaaXHeldT
import Derived.Test.YtanfjghdjkiggaaXFrzT
import Derived.Test.YtanfjghdjkiggaaXVarsLaw
import Derived.Test.YtanfjghdjkiggaaXLook
import Derived.Test.YtanfjghdjkiggaaXMarkB
import Derived.Test.YtanfjghdjkiggaaXLookLaw
import Derived.Test.YtanfjghdjkiggaaXLookX
import Derived.Test.YtanfjghdjkiggaaXLit
import Derived.Test.YtanfjghdjkiggaaXLaw
import Derived.Test.YtanfjghdjkiggaaXShape
namespace Go.Proofs.Ytanfjghdjkiggaa.VS
set_option linter.unusedVariables false
set_option linter.unusedSimpArgs false
theorem plainFnExactLook (xs : List (List DV)) (h : Args Try.prog Try.f5.params.toList xs) : ∃ A B, callV E [] 346 (argDVs Try.prog Try.f5.params.toList xs) [] Ids.none = some ⟨.d (.bool true), A, B⟩ := by
  rw [Try.params5] at h ⊢
  obtain ⟨x0, x1, rfl⟩ := args2 h
  obtain ⟨⟨_, s0⟩, ⟨⟨_, s1⟩, _⟩⟩ := h
  obtain ⟨g0, a0, rfl, h0, o0⟩ := shape_binds Try.underlying34 Try.underlying70 (by kernel_rfl) Try.underlying3 (fun x => (shape_term Try.underlying49 (by kernel_rfl) Try.underlying3 Try.underlying47 (by refine ⟨?_, ?_, ?_⟩ <;> kernel_rfl) _ _ (Nat.lt_succ_self _))) (by refine ⟨?_, ?_, ?_⟩ <;> kernel_rfl) s0
  obtain ⟨a1, rfl, h1⟩ := shape_int Try.underlying3 s1
  obtain ⟨B, h⟩ := FnExactLook_x (a0.map BB.erase) (by simpa using h0) (BB.oks_erase o0) a1 (wf_i64 h1)
  obtain ⟨A, B', h2⟩ := plain_of_X xok (k := 346) (vs := [bindsV g0 a0, .int .i64 a1]) ⟨B, by simpa [DV.clrs, clr_str, clr_int, clr_bindsV] using h⟩
  exact ⟨A, B', by simpa [argDVs, elemDV, TT.enc, Try.underlying3, Try.underlying34] using h2⟩
set_option maxRecDepth 100000 in
theorem liftedFnExactLook (os : Os) (started : os.Started) (H : Type) (enc : TypeId × Value → H) :
    ReturnsInHanded {} Try.checked os 5 .any (Rows.fnExactLookSpec.pre6 enc Try.prog Try.f5 Rows.fnExactLookRow.domain false) (Rows.fnExactLookSpec.post enc Try.prog Try.f5 false true false false) :=
  law_lifted (C := Try.checked) (k := 346) (E := E) (S := [34, 70, 3, 49, 47]) (tb := 4) env_ok (by kernel_rfl) started (by kernel_rfl) rfl (by kernel_rfl) Try.func5 rfl (by kernel_rfl) (by kernel_rfl) (by kernel_rfl) (by kernel_rfl) Try.underlying4
    (fun ds hd => by match ds, hd with | [a0, a1], _ => rfl)
    (ChangeSpec.witness6 (enc := enc) (C := Try.checked) false ⟨#[], #[.slice none 0 0, .int .i64 0], []⟩ 8 (by kernel_rfl) (by kernel_rfl) (by kernel_rfl) (by kernel_rfl))
    plainFnExactLook
theorem overFnExactLook : Rows.fnExactLookRow.holds Try.pinned (OpenSpec.ofChange Rows.fnExactLookSpec) :=
  OpenClaim.holds_of_wide 5 Try.f5 rfl rfl rfl rfl rfl rfl rfl ⟨rfl, rfl, rfl, rfl, rfl⟩ rfl rfl rfl rfl rfl (by kernel_rfl) Try.func5 (by kernel_rfl)
    (of_decide_eq_true (by kernel_rfl)) (by unfold Func.isWrapper; first | (rw [if_pos (by decide +kernel)]; kernel_rfl) | (rw [if_neg (by decide +kernel)]; exact ⟨rfl, rfl⟩))
    (fun os started H enc _ => liftedFnExactLook os started H enc)
end Go.Proofs.Ytanfjghdjkiggaa.VS
namespace Go.Proofs.Ytanfjghdjkiggaa
theorem fnExactLook_said : Rows.FnExactLookSaid := VS.overFnExactLook
#print axioms fnExactLook_said
end Go.Proofs.Ytanfjghdjkiggaa
