/- Whatever its arguments are, FnExactSum returns true, and they read behind the call as before. Condition: none beyond the given row's. -/
import Derived.Test.YtanfjghdjkiggaaRows
import Derived.Test.YtanfjghdjkiggaaEnv
import Derived.Test.YtanfjghdjkiggaaLin
import Derived.Test.YtanfjghdjkiggaaXTerm
import Derived.Test.YtanfjghdjkiggaaXTerm2
import Derived.Test.YtanfjghdjkiggaaXTerm3
import Derived.Test.YtanfjghdjkiggaaXSame
import Derived.Test.YtanfjghdjkiggaaXEach
import Derived.Test.YtanfjghdjkiggaaXParts
import Derived.Test.YtanfjghdjkiggaaXCount
import Derived.Test.YtanfjghdjkiggaaXSig
import Derived.Test.YtanfjghdjkiggaaXName
import Derived.Test.YtanfjghdjkiggaaXSigOk
import Derived.Test.YtanfjghdjkiggaaXInts
import Derived.Test.YtanfjghdjkiggaaXNumA
import Derived.Test.YtanfjghdjkiggaaNumW
import Derived.Test.YtanfjghdjkiggaaXVars
import Derived.Test.YtanfjghdjkiggaaXMarkI
import Derived.Test.YtanfjghdjkiggaaXNumLaw
import Derived.Test.YtanfjghdjkiggaaXSum
import Derived.Test.YtanfjghdjkiggaaXSum2
import Derived.Test.YtanfjghdjkiggaaXSum3
import Derived.Test.YtanfjghdjkiggaaXMarkII
import Derived.Test.YtanfjghdjkiggaaXSumLaw
import Derived.Test.YtanfjghdjkiggaaXLit
import Derived.Test.YtanfjghdjkiggaaXBind
import Derived.Test.YtanfjghdjkiggaaXLaw
import Derived.Test.YtanfjghdjkiggaaXShape
import Derived.Test.YtanfjghdjkiggaaXShapeI
namespace Go.Proofs.Ytanfjghdjkiggaa.VS
set_option linter.unusedVariables false
set_option linter.unusedSimpArgs false
theorem plainFnExactSum (xs : List (List DV)) (h : Args Try.prog Try.f3.params.toList xs) : ∃ A B, callV E [] 348 (argDVs Try.prog Try.f3.params.toList xs) [] Ids.none = some ⟨.d (.bool true), A, B⟩ := by
  rw [Try.params3] at h ⊢
  obtain ⟨x0, x1, rfl⟩ := args2 h
  obtain ⟨⟨_, s0⟩, ⟨⟨_, s1⟩, _⟩⟩ := h
  obtain ⟨g0, a0, rfl, h0, o0⟩ := shape_intss Try.underlying22 Try.underlying24 Try.underlying3 s0
  obtain ⟨a1, rfl, h1⟩ := shape_int Try.underlying3 s1
  obtain ⟨B, h⟩ := FnExactSum_x (a0.map Prod.snd) (by simpa using h0) (rows_ok o0) a1 (wf_i64 h1)
  obtain ⟨A, B', h2⟩ := plain_of_X xok (k := 348) (vs := [intss g0 a0, .int .i64 a1]) ⟨B, by simpa [DV.clrs, clr_str, clr_int, clr_intss] using h⟩
  exact ⟨A, B', by simpa [argDVs, elemDV, TT.enc, Try.underlying3, Try.underlying22] using h2⟩
set_option maxRecDepth 100000 in
theorem liftedFnExactSum (os : Os) (started : os.Started) (H : Type) (enc : TypeId × Value → H) :
    ReturnsInHanded {} Try.checked os 3 .any (Rows.fnExactSumSpec.pre6 enc Try.prog Try.f3 Rows.fnExactSumRow.domain false) (Rows.fnExactSumSpec.post enc Try.prog Try.f3 false true false false) :=
  law_lifted (C := Try.checked) (k := 348) (E := E) (S := [22, 24, 3]) (tb := 4) env_ok (by kernel_rfl) started (by kernel_rfl) rfl (by kernel_rfl) Try.func3 rfl (by kernel_rfl) (by kernel_rfl) (by kernel_rfl) (by kernel_rfl) Try.underlying4
    (fun ds hd => by match ds, hd with | [a0, a1], _ => rfl)
    (ChangeSpec.witness6 (enc := enc) (C := Try.checked) false ⟨#[], #[.slice none 0 0, .int .i64 0], []⟩ 8 (by kernel_rfl) (by kernel_rfl) (by kernel_rfl) (by kernel_rfl))
    plainFnExactSum
theorem overFnExactSum : Rows.fnExactSumRow.holds Try.pinned (OpenSpec.ofChange Rows.fnExactSumSpec) :=
  OpenClaim.holds_of_wide 3 Try.f3 rfl rfl rfl rfl rfl rfl rfl ⟨rfl, rfl, rfl, rfl, rfl⟩ rfl rfl rfl rfl rfl (by kernel_rfl) Try.func3 (by kernel_rfl)
    (of_decide_eq_true (by kernel_rfl)) (by unfold Func.isWrapper; first | (rw [if_pos (by decide +kernel)]; kernel_rfl) | (rw [if_neg (by decide +kernel)]; exact ⟨rfl, rfl⟩))
    (fun os started H enc _ => liftedFnExactSum os started H enc)
end Go.Proofs.Ytanfjghdjkiggaa.VS
namespace Go.Proofs.Ytanfjghdjkiggaa
theorem fnExactSum_said : Rows.FnExactSumSaid := VS.overFnExactSum
#print axioms fnExactSum_said
end Go.Proofs.Ytanfjghdjkiggaa
