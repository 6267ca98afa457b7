/- Whatever its arguments are, FnExactBlind returns true, and they read behind the call as before. Condition: none beyond the given row's. -/
import Derived.Test.YtgdclabfecmmmaaRows
import Derived.Test.YtgdclabfecmmmaaOk
import Derived.Test.YtgdclabfecmmmaaCSyms
import Derived.Test.YtgdclabfecmmmaaCBlind
namespace Go.Proofs.Ytgdclabfecmmmaa.VS
set_option linter.unusedVariables false
theorem plainFnExactBlind (xs : List (List DV)) (h : Args Try.prog Try.f10.params.toList xs) : ∃ A B, callV E [] 32 (argDVs Try.prog Try.f10.params.toList xs) [] Ids.none = some ⟨.d (.bool true), A, B⟩ := by
  rw [Try.params10] at h ⊢
  match xs, h with
  | [x0, x1], h =>
    obtain ⟨⟨_, s0⟩, ⟨⟨_, s1⟩, _⟩⟩ := h
    obtain ⟨g0, a0, rfl, h0, o0⟩ := shape_syms Try.underlying33 Try.underlying62 (by kernel_rfl) Try.underlying9 Try.underlying3 Try.underlying4 (by refine ⟨?_, ?_, ?_, ?_⟩ <;> kernel_rfl) s0
    obtain ⟨a1, rfl, h1⟩ := shape_int Try.underlying3 s1
    obtain ⟨A, h⟩ := FnExactBlind_law [] g0 a0 h0 o0 a1 (wf_i64 h1)
    exact ⟨A, [], by simpa [argDVs, elemDV, TT.enc, Try.underlying3, Try.underlying33] using h⟩
set_option maxRecDepth 100000 in
theorem liftedFnExactBlind (os : Os) (started : os.Started) (H : Type) (enc : TypeId × Value → H) :
    ReturnsInHanded {} Try.checked os 10 .any (Rows.fnExactBlindSpec.pre6 enc Try.prog Try.f10 Rows.fnExactBlindRow.domain false) (Rows.fnExactBlindSpec.post enc Try.prog Try.f10 false true false false) :=
  law_lifted (C := Try.checked) (k := 32) (E := E) (S := [33, 62, 9, 3, 4]) (tb := 4) env_ok (by kernel_rfl) started (by kernel_rfl) rfl (by kernel_rfl) Try.func10 rfl (by kernel_rfl) (by kernel_rfl) (by kernel_rfl) (by kernel_rfl) Try.underlying4
    (fun ds hd => by match ds, hd with | [a0, a1], _ => rfl)
    (ChangeSpec.witness6 (enc := enc) (C := Try.checked) false ⟨#[], #[.slice none 0 0, .int .i64 0], []⟩ 8 (by kernel_rfl) (by kernel_rfl) (by kernel_rfl) (by kernel_rfl))
    plainFnExactBlind
theorem overFnExactBlind : Rows.fnExactBlindRow.holds Try.pinned (OpenSpec.ofChange Rows.fnExactBlindSpec) :=
  OpenClaim.holds_of_wide 10 Try.f10 rfl rfl rfl rfl rfl rfl rfl ⟨rfl, rfl, rfl, rfl, rfl⟩ rfl rfl rfl rfl rfl (by kernel_rfl) Try.func10 (by kernel_rfl)
    (of_decide_eq_true (by kernel_rfl)) (by unfold Func.isWrapper; first | (rw [if_pos (by decide +kernel)]; kernel_rfl) | (rw [if_neg (by decide +kernel)]; exact ⟨rfl, rfl⟩))
    (fun os started H enc _ => liftedFnExactBlind os started H enc)
end Go.Proofs.Ytgdclabfecmmmaa.VS
namespace Go.Proofs.Ytgdclabfecmmmaa
theorem fnExactBlind_said : Rows.FnExactBlindSaid := VS.overFnExactBlind
#print axioms fnExactBlind_said
end Go.Proofs.Ytgdclabfecmmmaa
