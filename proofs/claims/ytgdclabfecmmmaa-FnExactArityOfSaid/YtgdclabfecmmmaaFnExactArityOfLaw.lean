/- Whatever its arguments are, FnExactArityOf returns true, and they read behind the call as before. Condition: none beyond the given row's. -/
import Derived.Test.YtgdclabfecmmmaaRows
import Derived.Test.YtgdclabfecmmmaaOk
import Derived.Test.YtgdclabfecmmmaaCSyms
import Derived.Test.YtgdclabfecmmmaaCBlind
import Derived.Test.YtgdclabfecmmmaaCArity
namespace Go.Proofs.Ytgdclabfecmmmaa.VS
set_option linter.unusedVariables false
theorem plainFnExactArityOf (xs : List (List DV)) (h : Args Try.prog Try.f11.params.toList xs) : ∃ A B, callV E [] 26 (argDVs Try.prog Try.f11.params.toList xs) [] Ids.none = some ⟨.d (.bool true), A, B⟩ := by
  rw [Try.params11] at h ⊢
  match xs, h with
  | [x0, x1], h =>
    obtain ⟨⟨_, s0⟩, ⟨⟨_, s1⟩, _⟩⟩ := h
    obtain ⟨g0, a0, rfl, h0, o0⟩ := shape_syms Try.underlying33 Try.underlying62 (by kernel_rfl) Try.underlying9 Try.underlying3 Try.underlying4 (by refine ⟨?_, ?_, ?_, ?_⟩ <;> kernel_rfl) s0
    obtain ⟨a1, rfl, h1⟩ := shape_int Try.underlying3 s1
    obtain ⟨A, h⟩ := FnExactArityOf_law [] g0 a0 h0 o0 a1 (wf_i64 h1)
    exact ⟨A, [], by simpa [argDVs, elemDV, TT.enc, Try.underlying3, Try.underlying33] using h⟩
set_option maxRecDepth 100000 in
theorem liftedFnExactArityOf (os : Os) (started : os.Started) (H : Type) (enc : TypeId × Value → H) :
    ReturnsInHanded {} Try.checked os 11 .any (Rows.fnExactArityOfSpec.pre6 enc Try.prog Try.f11 Rows.fnExactArityOfRow.domain false) (Rows.fnExactArityOfSpec.post enc Try.prog Try.f11 false true false false) :=
  law_lifted (C := Try.checked) (k := 26) (E := E) (S := [33, 62, 9, 3, 4]) (tb := 4) env_ok (by kernel_rfl) started (by kernel_rfl) rfl (by kernel_rfl) Try.func11 rfl (by kernel_rfl) (by kernel_rfl) (by kernel_rfl) (by kernel_rfl) Try.underlying4
    (fun ds hd => by match ds, hd with | [a0, a1], _ => rfl)
    (ChangeSpec.witness6 (enc := enc) (C := Try.checked) false ⟨#[], #[.slice none 0 0, .int .i64 0], []⟩ 8 (by kernel_rfl) (by kernel_rfl) (by kernel_rfl) (by kernel_rfl))
    plainFnExactArityOf
theorem overFnExactArityOf : Rows.fnExactArityOfRow.holds Try.pinned (OpenSpec.ofChange Rows.fnExactArityOfSpec) :=
  OpenClaim.holds_of_wide 11 Try.f11 rfl rfl rfl rfl rfl rfl rfl ⟨rfl, rfl, rfl, rfl, rfl⟩ rfl rfl rfl rfl rfl (by kernel_rfl) Try.func11 (by kernel_rfl)
    (of_decide_eq_true (by kernel_rfl)) (by unfold Func.isWrapper; first | (rw [if_pos (by decide +kernel)]; kernel_rfl) | (rw [if_neg (by decide +kernel)]; exact ⟨rfl, rfl⟩))
    (fun os started H enc _ => liftedFnExactArityOf os started H enc)
end Go.Proofs.Ytgdclabfecmmmaa.VS
namespace Go.Proofs.Ytgdclabfecmmmaa
theorem fnExactArityOf_said : Rows.FnExactArityOfSaid := VS.overFnExactArityOf
#print axioms fnExactArityOf_said
end Go.Proofs.Ytgdclabfecmmmaa
