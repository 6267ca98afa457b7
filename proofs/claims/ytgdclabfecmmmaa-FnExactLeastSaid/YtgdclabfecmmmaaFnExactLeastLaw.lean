/- Whatever its arguments are, FnExactLeast returns true, and they read behind the call as before. Condition: none beyond the given row's. -/
import Derived.Test.YtgdclabfecmmmaaRows
import Derived.Test.YtgdclabfecmmmaaOk
import Derived.Test.YtgdclabfecmmmaaCInts
import Derived.Test.YtgdclabfecmmmaaCLeast
namespace Go.Proofs.Ytgdclabfecmmmaa.VS
set_option linter.unusedVariables false
theorem plainFnExactLeast (xs : List (List DV)) (h : Args Try.prog Try.f7.params.toList xs) : ∃ A B, callV E [] 49 (argDVs Try.prog Try.f7.params.toList xs) [] Ids.none = some ⟨.d (.bool true), A, B⟩ := by
  rw [Try.params7] at h ⊢
  match xs, h with
  | [x0, x1], h =>
    obtain ⟨⟨_, s0⟩, ⟨⟨_, s1⟩, _⟩⟩ := h
    obtain ⟨g0, a0, rfl, h0, o0⟩ := shape_ints Try.underlying26 Try.underlying3 s0
    obtain ⟨g1, a1, rfl, h1, o1⟩ := shape_ints Try.underlying26 Try.underlying3 s1
    obtain ⟨A, h⟩ := FnExactLeast_law [] g0 a0 h0 o0 g1 a1 h1 o1
    exact ⟨A, [], by simpa [argDVs, elemDV, TT.enc, Try.underlying26] using h⟩
set_option maxRecDepth 100000 in
theorem liftedFnExactLeast (os : Os) (started : os.Started) (H : Type) (enc : TypeId × Value → H) :
    ReturnsInHanded {} Try.checked os 7 .any (Rows.fnExactLeastSpec.pre6 enc Try.prog Try.f7 Rows.fnExactLeastRow.domain false) (Rows.fnExactLeastSpec.post enc Try.prog Try.f7 false true false false) :=
  law_lifted (C := Try.checked) (k := 49) (E := E) (S := [26, 3]) (tb := 4) env_ok (by kernel_rfl) started (by kernel_rfl) rfl (by kernel_rfl) Try.func7 rfl (by kernel_rfl) (by kernel_rfl) (by kernel_rfl) (by kernel_rfl) Try.underlying4
    (fun ds hd => by match ds, hd with | [a0, a1], _ => rfl)
    (ChangeSpec.witness6 (enc := enc) (C := Try.checked) false ⟨#[], #[.slice none 0 0, .slice none 0 0], []⟩ 8 (by kernel_rfl) (by kernel_rfl) (by kernel_rfl) (by kernel_rfl))
    plainFnExactLeast
theorem overFnExactLeast : Rows.fnExactLeastRow.holds Try.pinned (OpenSpec.ofChange Rows.fnExactLeastSpec) :=
  OpenClaim.holds_of_wide 7 Try.f7 rfl rfl rfl rfl rfl rfl rfl ⟨rfl, rfl, rfl, rfl, rfl⟩ rfl rfl rfl rfl rfl (by kernel_rfl) Try.func7 (by kernel_rfl)
    (of_decide_eq_true (by kernel_rfl)) (by unfold Func.isWrapper; first | (rw [if_pos (by decide +kernel)]; kernel_rfl) | (rw [if_neg (by decide +kernel)]; exact ⟨rfl, rfl⟩))
    (fun os started H enc _ => liftedFnExactLeast os started H enc)
end Go.Proofs.Ytgdclabfecmmmaa.VS
namespace Go.Proofs.Ytgdclabfecmmmaa
theorem fnExactLeast_said : Rows.FnExactLeastSaid := VS.overFnExactLeast
#print axioms fnExactLeast_said
end Go.Proofs.Ytgdclabfecmmmaa
