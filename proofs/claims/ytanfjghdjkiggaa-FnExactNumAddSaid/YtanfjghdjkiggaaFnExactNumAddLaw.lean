/- Whatever its arguments are, FnExactNumAdd returns true, and they read behind the call as before. Condition: none beyond the given row's. -/
import Derived.Test.YtanfjghdjkiggaaRows
import Derived.Test.YtanfjghdjkiggaaEnv
import Derived.Test.YtanfjghdjkiggaaLin
import Derived.Test.YtanfjghdjkiggaaXTerm
import Derived.Test.YtanfjghdjkiggaaXTerm2
import Derived.Test.YtanfjghdjkiggaaXTerm3
import Derived.Test.YtanfjghdjkiggaaXSame
import Derived.Test.YtanfjghdjkiggaaXEach
import Derived.Test.YtanfjghdjkiggaaXParts
import Derived.Test.YtanfjghdjkiggaaXCount
import Derived.Test.YtanfjghdjkiggaaXSig
import Derived.Test.YtanfjghdjkiggaaXName
import Derived.Test.YtanfjghdjkiggaaXSigOk
import Derived.Test.YtanfjghdjkiggaaXInts
import Derived.Test.YtanfjghdjkiggaaXNumA
import Derived.Test.YtanfjghdjkiggaaNumW
import Derived.Test.YtanfjghdjkiggaaXVars
import Derived.Test.YtanfjghdjkiggaaXMarkI
import Derived.Test.YtanfjghdjkiggaaXNumLaw
import Derived.Test.YtanfjghdjkiggaaXLit
import Derived.Test.YtanfjghdjkiggaaXBind
import Derived.Test.YtanfjghdjkiggaaXLaw
import Derived.Test.YtanfjghdjkiggaaXShape
namespace Go.Proofs.Ytanfjghdjkiggaa.VS
set_option linter.unusedVariables false
set_option linter.unusedSimpArgs false
theorem plainFnExactNumAdd (xs : List (List DV)) (h : Args Try.prog Try.f4.params.toList xs) : ∃ A B, callV E [] 347 (argDVs Try.prog Try.f4.params.toList xs) [] Ids.none = some ⟨.d (.bool true), A, B⟩ := by
  rw [Try.params4] at h ⊢
  obtain ⟨x0, x1, rfl⟩ := args2 h
  obtain ⟨⟨_, s0⟩, ⟨⟨_, s1⟩, _⟩⟩ := h
  obtain ⟨g0, a0, rfl, h0, o0⟩ := shape_ints Try.underlying24 Try.underlying3 s0
  obtain ⟨a1, rfl, h1⟩ := shape_int Try.underlying3 s1
  obtain ⟨B, h⟩ := FnExactNumAdd_x a0 h0 o0 a1 (wf_i64 h1)
  obtain ⟨A, B', h2⟩ := plain_of_X xok (k := 347) (vs := [ints g0 a0, .int .i64 a1]) ⟨B, by simpa [DV.clrs, clr_str, clr_int, clr_ints] using h⟩
  exact ⟨A, B', by simpa [argDVs, elemDV, TT.enc, Try.underlying3, Try.underlying24] using h2⟩
set_option maxRecDepth 100000 in
theorem liftedFnExactNumAdd (os : Os) (started : os.Started) (H : Type) (enc : TypeId × Value → H) :
    ReturnsInHanded {} Try.checked os 4 .any (Rows.fnExactNumAddSpec.pre6 enc Try.prog Try.f4 Rows.fnExactNumAddRow.domain false) (Rows.fnExactNumAddSpec.post enc Try.prog Try.f4 false true false false) :=
  law_lifted (C := Try.checked) (k := 347) (E := E) (S := [24, 3]) (tb := 4) env_ok (by kernel_rfl) started (by kernel_rfl) rfl (by kernel_rfl) Try.func4 rfl (by kernel_rfl) (by kernel_rfl) (by kernel_rfl) (by kernel_rfl) Try.underlying4
    (fun ds hd => by match ds, hd with | [a0, a1], _ => rfl)
    (ChangeSpec.witness6 (enc := enc) (C := Try.checked) false ⟨#[], #[.slice none 0 0, .int .i64 0], []⟩ 8 (by kernel_rfl) (by kernel_rfl) (by kernel_rfl) (by kernel_rfl))
    plainFnExactNumAdd
theorem overFnExactNumAdd : Rows.fnExactNumAddRow.holds Try.pinned (OpenSpec.ofChange Rows.fnExactNumAddSpec) :=
  OpenClaim.holds_of_wide 4 Try.f4 rfl rfl rfl rfl rfl rfl rfl ⟨rfl, rfl, rfl, rfl, rfl⟩ rfl rfl rfl rfl rfl (by kernel_rfl) Try.func4 (by kernel_rfl)
    (of_decide_eq_true (by kernel_rfl)) (by unfold Func.isWrapper; first | (rw [if_pos (by decide +kernel)]; kernel_rfl) | (rw [if_neg (by decide +kernel)]; exact ⟨rfl, rfl⟩))
    (fun os started H enc _ => liftedFnExactNumAdd os started H enc)
end Go.Proofs.Ytanfjghdjkiggaa.VS
namespace Go.Proofs.Ytanfjghdjkiggaa
theorem fnExactNumAdd_said : Rows.FnExactNumAddSaid := VS.overFnExactNumAdd
#print axioms fnExactNumAdd_said
end Go.Proofs.Ytanfjghdjkiggaa
