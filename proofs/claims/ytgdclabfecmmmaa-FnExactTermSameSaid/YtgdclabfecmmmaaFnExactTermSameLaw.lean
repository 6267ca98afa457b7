/- Whatever its arguments are, FnExactTermSame returns true, and they read behind the call as before. Condition: none beyond the given row's. -/
import Derived.Test.YtgdclabfecmmmaaRows
import Derived.Test.YtgdclabfecmmmaaOk
import Derived.Test.YtgdclabfecmmmaaLin
import Derived.Test.YtgdclabfecmmmaaXTerm
import Derived.Test.YtgdclabfecmmmaaXTerm2
import Derived.Test.YtgdclabfecmmmaaXTerm3
import Derived.Test.YtgdclabfecmmmaaXSame
import Derived.Test.YtgdclabfecmmmaaXLaw
namespace Go.Proofs.Ytgdclabfecmmmaa.VS
set_option linter.unusedVariables false
set_option linter.unusedSimpArgs false
theorem plainFnExactTermSame (xs : List (List DV)) (h : Args Try.prog Try.f14.params.toList xs) : ∃ A B, callV E [] 0 (argDVs Try.prog Try.f14.params.toList xs) [] Ids.none = some ⟨.d (.bool true), A, B⟩ := by
  rw [Try.params14] at h ⊢
  match xs, h with
  | [x0, x1], h =>
    obtain ⟨⟨_, s0⟩, ⟨⟨_, s1⟩, _⟩⟩ := h
    obtain ⟨a0, rfl, h0⟩ := (shape_term Try.underlying43 (by kernel_rfl) Try.underlying3 Try.underlying41 (by refine ⟨?_, ?_, ?_⟩ <;> kernel_rfl) _ _ (Nat.lt_succ_self _)) s0
    obtain ⟨a1, rfl, h1⟩ := (shape_term Try.underlying43 (by kernel_rfl) Try.underlying3 Try.underlying41 (by refine ⟨?_, ?_, ?_⟩ <;> kernel_rfl) _ _ (Nat.lt_succ_self _)) s1
    obtain ⟨B, h⟩ := FnExactTermSame_x a0.erase (TT.ok_erase _ h0) a1.erase (TT.ok_erase _ h1)
    obtain ⟨A, B', h2⟩ := plain_of_X xok (k := 0) (vs := [a0.enc, a1.enc]) ⟨B, by simpa [DV.clrs, clr_str, clr_int, TT.clr_enc] using h⟩
    exact ⟨A, B', by simpa [argDVs, elemDV, TT.enc, Try.underlying43] using h2⟩
set_option maxRecDepth 100000 in
theorem liftedFnExactTermSame (os : Os) (started : os.Started) (H : Type) (enc : TypeId × Value → H) :
    ReturnsInHanded {} Try.checked os 14 .any (Rows.fnExactTermSameSpec.pre6 enc Try.prog Try.f14 Rows.fnExactTermSameRow.domain false) (Rows.fnExactTermSameSpec.post enc Try.prog Try.f14 false true false false) :=
  law_lifted (C := Try.checked) (k := 0) (E := E) (S := [43, 3, 41]) (tb := 4) env_ok (by kernel_rfl) started (by kernel_rfl) rfl (by kernel_rfl) Try.func14 rfl (by kernel_rfl) (by kernel_rfl) (by kernel_rfl) (by kernel_rfl) Try.underlying4
    (fun ds hd => by match ds, hd with | [a0, a1], _ => rfl)
    (ChangeSpec.witness6 (enc := enc) (C := Try.checked) false ⟨#[], #[.agg #[.int .i64 0, .int .i64 0, .slice none 0 0], .agg #[.int .i64 0, .int .i64 0, .slice none 0 0]], []⟩ 8 (by kernel_rfl) (by kernel_rfl) (by kernel_rfl) (by kernel_rfl))
    plainFnExactTermSame
theorem overFnExactTermSame : Rows.fnExactTermSameRow.holds Try.pinned (OpenSpec.ofChange Rows.fnExactTermSameSpec) :=
  OpenClaim.holds_of_wide 14 Try.f14 rfl rfl rfl rfl rfl rfl rfl ⟨rfl, rfl, rfl, rfl, rfl⟩ rfl rfl rfl rfl rfl (by kernel_rfl) Try.func14 (by kernel_rfl)
    (of_decide_eq_true (by kernel_rfl)) (by unfold Func.isWrapper; first | (rw [if_pos (by decide +kernel)]; kernel_rfl) | (rw [if_neg (by decide +kernel)]; exact ⟨rfl, rfl⟩))
    (fun os started H enc _ => liftedFnExactTermSame os started H enc)
end Go.Proofs.Ytgdclabfecmmmaa.VS
namespace Go.Proofs.Ytgdclabfecmmmaa
theorem fnExactTermSame_said : Rows.FnExactTermSameSaid := VS.overFnExactTermSame
#print axioms fnExactTermSame_said
end Go.Proofs.Ytgdclabfecmmmaa
