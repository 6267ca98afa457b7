/- Whatever its arguments are, FnExactSymOf returns true, and they read behind the call as before. Condition: none beyond the given row's. -/
import Derived.Test.YtgdclabfecmmmaaRows
import Derived.Test.YtgdclabfecmmmaaOk
import Derived.Test.YtgdclabfecmmmaaCSyms
import Derived.Test.YtgdclabfecmmmaaCBlind
import Derived.Test.YtgdclabfecmmmaaCSymOf
namespace Go.Proofs.Ytgdclabfecmmmaa.VS
set_option linter.unusedVariables false
theorem plainFnExactSymOf (xs : List (List DV)) (h : Args Try.prog Try.f13.params.toList xs) : ∃ A B, callV E [] 10 (argDVs Try.prog Try.f13.params.toList xs) [] Ids.none = some ⟨.d (.bool true), A, B⟩ := by
  rw [Try.params13] at h ⊢
  match xs, h with
  | [x0, x1], h =>
    obtain ⟨⟨_, s0⟩, ⟨⟨_, s1⟩, _⟩⟩ := h
    obtain ⟨g0, a0, rfl, h0, o0⟩ := shape_syms Try.underlying33 Try.underlying62 (by kernel_rfl) Try.underlying9 Try.underlying3 Try.underlying4 (by refine ⟨?_, ?_, ?_, ?_⟩ <;> kernel_rfl) s0
    obtain ⟨a1, rfl, h1⟩ := shape_str Try.underlying9 s1
    obtain ⟨A, h⟩ := FnExactSymOf_law [] g0 a0 h0 o0 a1 h1
    exact ⟨A, [], by simpa [argDVs, elemDV, TT.enc, Try.underlying9, Try.underlying33] using h⟩
set_option maxRecDepth 100000 in
theorem liftedFnExactSymOf (os : Os) (started : os.Started) (H : Type) (enc : TypeId × Value → H) :
    ReturnsInHanded {} Try.checked os 13 .any (Rows.fnExactSymOfSpec.pre6 enc Try.prog Try.f13 Rows.fnExactSymOfRow.domain false) (Rows.fnExactSymOfSpec.post enc Try.prog Try.f13 false true false false) :=
  law_lifted (C := Try.checked) (k := 10) (E := E) (S := [33, 62, 9, 3, 4]) (tb := 4) env_ok (by kernel_rfl) started (by kernel_rfl) rfl (by kernel_rfl) Try.func13 rfl (by kernel_rfl) (by kernel_rfl) (by kernel_rfl) (by kernel_rfl) Try.underlying4
    (fun ds hd => by match ds, hd with | [a0, a1], _ => rfl)
    (ChangeSpec.witness6 (enc := enc) (C := Try.checked) false ⟨#[], #[.slice none 0 0, .string ByteArray.empty], []⟩ 8 (by kernel_rfl) (by kernel_rfl) (by kernel_rfl) (by kernel_rfl))
    plainFnExactSymOf
theorem overFnExactSymOf : Rows.fnExactSymOfRow.holds Try.pinned (OpenSpec.ofChange Rows.fnExactSymOfSpec) :=
  OpenClaim.holds_of_wide 13 Try.f13 rfl rfl rfl rfl rfl rfl rfl ⟨rfl, rfl, rfl, rfl, rfl⟩ rfl rfl rfl rfl rfl (by kernel_rfl) Try.func13 (by kernel_rfl)
    (of_decide_eq_true (by kernel_rfl)) (by unfold Func.isWrapper; first | (rw [if_pos (by decide +kernel)]; kernel_rfl) | (rw [if_neg (by decide +kernel)]; exact ⟨rfl, rfl⟩))
    (fun os started H enc _ => liftedFnExactSymOf os started H enc)
end Go.Proofs.Ytgdclabfecmmmaa.VS
namespace Go.Proofs.Ytgdclabfecmmmaa
theorem fnExactSymOf_said : Rows.FnExactSymOfSaid := VS.overFnExactSymOf
#print axioms fnExactSymOf_said
end Go.Proofs.Ytgdclabfecmmmaa
