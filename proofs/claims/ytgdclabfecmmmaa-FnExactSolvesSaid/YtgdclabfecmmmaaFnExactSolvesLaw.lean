/- Whatever its arguments are, FnExactSolves returns true, and they read behind the call as before. Condition: none beyond the given row's. -/
import Derived.Test.YtgdclabfecmmmaaRows
import Derived.Test.YtgdclabfecmmmaaOk
import Derived.Test.YtgdclabfecmmmaaLin
import Derived.Test.YtgdclabfecmmmaaXTerm
import Derived.Test.YtgdclabfecmmmaaXTerm2
import Derived.Test.YtgdclabfecmmmaaXTerm3
import Derived.Test.YtgdclabfecmmmaaXSame
import Derived.Test.YtgdclabfecmmmaaXSig
import Derived.Test.YtgdclabfecmmmaaXName
import Derived.Test.YtgdclabfecmmmaaXSigOk
import Derived.Test.YtgdclabfecmmmaaXInts
import Derived.Test.YtgdclabfecmmmaaXSolve
import Derived.Test.YtgdclabfecmmmaaXLaw
namespace Go.Proofs.Ytgdclabfecmmmaa.VS
set_option linter.unusedVariables false
set_option linter.unusedSimpArgs false
theorem plainFnExactSolves (xs : List (List DV)) (h : Args Try.prog Try.f8.params.toList xs) : ∃ A B, callV E [] 40 (argDVs Try.prog Try.f8.params.toList xs) [] Ids.none = some ⟨.d (.bool true), A, B⟩ := by
  rw [Try.params8] at h ⊢
  obtain ⟨x0, x1, x2, rfl⟩ := args3 h
  obtain ⟨⟨_, s0⟩, ⟨⟨_, s1⟩, ⟨⟨_, s2⟩, _⟩⟩⟩ := h
  obtain ⟨g0, a0, rfl, h0, o0⟩ := shape_ints Try.underlying26 Try.underlying3 s0
  obtain ⟨g1, a1, rfl, h1, o1⟩ := shape_ints Try.underlying26 Try.underlying3 s1
  obtain ⟨g2, a2, rfl, h2, o2⟩ := shape_ints Try.underlying26 Try.underlying3 s2
  obtain ⟨B, h⟩ := FnExactSolves_x a0 h0 o0 a1 h1 o1 a2 h2 o2
  obtain ⟨A, B', h2⟩ := plain_of_X xok (k := 40) (vs := [ints g0 a0, ints g1 a1, ints g2 a2]) ⟨B, by simpa [DV.clrs, clr_str, clr_int, clr_ints] using h⟩
  exact ⟨A, B', by simpa [argDVs, elemDV, TT.enc, Try.underlying26] using h2⟩
set_option maxRecDepth 100000 in
theorem liftedFnExactSolves (os : Os) (started : os.Started) (H : Type) (enc : TypeId × Value → H) :
    ReturnsInHanded {} Try.checked os 8 .any (Rows.fnExactSolvesSpec.pre6 enc Try.prog Try.f8 Rows.fnExactSolvesRow.domain false) (Rows.fnExactSolvesSpec.post enc Try.prog Try.f8 false true false false) :=
  law_lifted (C := Try.checked) (k := 40) (E := E) (S := [26, 3]) (tb := 4) env_ok (by kernel_rfl) started (by kernel_rfl) rfl (by kernel_rfl) Try.func8 rfl (by kernel_rfl) (by kernel_rfl) (by kernel_rfl) (by kernel_rfl) Try.underlying4
    (fun ds hd => by match ds, hd with | [a0, a1, a2], _ => rfl)
    (ChangeSpec.witness6 (enc := enc) (C := Try.checked) false ⟨#[], #[.slice none 0 0, .slice none 0 0, .slice none 0 0], []⟩ 8 (by kernel_rfl) (by kernel_rfl) (by kernel_rfl) (by kernel_rfl))
    plainFnExactSolves
theorem overFnExactSolves : Rows.fnExactSolvesRow.holds Try.pinned (OpenSpec.ofChange Rows.fnExactSolvesSpec) :=
  OpenClaim.holds_of_wide 8 Try.f8 rfl rfl rfl rfl rfl rfl rfl ⟨rfl, rfl, rfl, rfl, rfl⟩ rfl rfl rfl rfl rfl (by kernel_rfl) Try.func8 (by kernel_rfl)
    (of_decide_eq_true (by kernel_rfl)) (by unfold Func.isWrapper; first | (rw [if_pos (by decide +kernel)]; kernel_rfl) | (rw [if_neg (by decide +kernel)]; exact ⟨rfl, rfl⟩))
    (fun os started H enc _ => liftedFnExactSolves os started H enc)
end Go.Proofs.Ytgdclabfecmmmaa.VS
namespace Go.Proofs.Ytgdclabfecmmmaa
theorem fnExactSolves_said : Rows.FnExactSolvesSaid := VS.overFnExactSolves
#print axioms fnExactSolves_said
end Go.Proofs.Ytgdclabfecmmmaa
