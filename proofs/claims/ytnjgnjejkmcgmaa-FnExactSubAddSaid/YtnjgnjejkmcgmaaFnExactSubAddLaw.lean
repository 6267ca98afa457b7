/- Whatever its arguments are, FnExactSubAdd returns true, and they read behind the call as before. Condition: none beyond the given row's. -/
import Derived.Test.YtnjgnjejkmcgmaaRows
import Derived.Test.YtnjgnjejkmcgmaaEnv
import Derived.Test.YtnjgnjejkmcgmaaLin
import Derived.Test.YtnjgnjejkmcgmaaXP1
import Derived.Test.YtnjgnjejkmcgmaaXP2
import Derived.Test.YtnjgnjejkmcgmaaXP3
import Derived.Test.YtnjgnjejkmcgmaaXP4
namespace Go.Proofs.Ytnjgnjejkmcgmaa.VS
set_option linter.unusedVariables false
set_option linter.unusedSimpArgs false
theorem plainFnExactSubAdd (xs : List (List DV)) (h : Args Try.prog Try.f6.params.toList xs) : ∃ A B, callV E [] 358 (argDVs Try.prog Try.f6.params.toList xs) [] Ids.none = some ⟨.d (.bool true), A, B⟩ := by
  rw [Try.params6] at h ⊢
  obtain ⟨x0, x1, x2, x3, rfl⟩ := args4 h
  obtain ⟨⟨_, s0⟩, ⟨⟨_, s1⟩, ⟨⟨_, s2⟩, ⟨⟨_, s3⟩, _⟩⟩⟩⟩ := h
  obtain ⟨g0, a0, rfl, h0, o0⟩ := (shape_syms Try.underlying22 Try.underlying60 (by kernel_rfl) Try.underlying9 Try.underlying3 Try.underlying4 (by refine ⟨?_, ?_, ?_, ?_⟩ <;> kernel_rfl)) s0
  obtain ⟨g1, a1, rfl, h1, o1⟩ := shape_binds Try.underlying46 Try.underlying74 (by kernel_rfl) Try.underlying3 (fun x => (shape_term Try.underlying25 (by kernel_rfl) Try.underlying3 Try.underlying23 (by refine ⟨?_, ?_, ?_⟩ <;> kernel_rfl) _ _ (Nat.lt_succ_self _))) (by refine ⟨?_, ?_, ?_⟩ <;> kernel_rfl) s1
  obtain ⟨a2, rfl, h2⟩ := shape_int Try.underlying3 s2
  obtain ⟨a3, rfl, h3⟩ := (shape_term Try.underlying25 (by kernel_rfl) Try.underlying3 Try.underlying23 (by refine ⟨?_, ?_, ?_⟩ <;> kernel_rfl) _ _ (Nat.lt_succ_self _)) s3
  obtain ⟨B, h⟩ := FnExactSubAdd_x a0 h0 o0 (a1.map BB.erase) (by simpa using h1) (BB.oks_erase o1) a2 (wf_i64 h2) a3.erase (TT.ok_erase _ h3)
  obtain ⟨A, B', h2⟩ := plain_of_X xok (k := 358) (vs := [syms g0 a0, bindsV g1 a1, .int .i64 a2, a3.enc]) ⟨B, by simpa [DV.clrs, clr_str, clr_int, clr_syms, TT.clr_enc, clr_bindsV] using h⟩
  exact ⟨A, B', by simpa [argDVs, elemDV, TT.enc, Try.underlying3, Try.underlying22, Try.underlying25, Try.underlying46] using h2⟩
set_option maxRecDepth 100000 in
theorem liftedFnExactSubAdd (os : Os) (started : os.Started) (H : Type) (enc : TypeId × Value → H) :
    ReturnsInHanded {} Try.checked os 6 .any (Rows.fnExactSubAddSpec.pre6 enc Try.prog Try.f6 Rows.fnExactSubAddRow.domain false) (Rows.fnExactSubAddSpec.post enc Try.prog Try.f6 false true false false) :=
  law_lifted (C := Try.checked) (k := 358) (E := E) (S := [22, 60, 9, 3, 4, 46, 74, 25, 23]) (tb := 4) env_ok (by kernel_rfl) started (by kernel_rfl) rfl (by kernel_rfl) Try.func6 rfl (by kernel_rfl) (by kernel_rfl) (by kernel_rfl) (by kernel_rfl) Try.underlying4
    (fun ds hd => by match ds, hd with | [a0, a1, a2, a3], _ => rfl)
    (ChangeSpec.witness6 (enc := enc) (C := Try.checked) false ⟨#[], #[.slice none 0 0, .slice none 0 0, .int .i64 0, .agg #[.int .i64 0, .int .i64 0, .slice none 0 0]], []⟩ 8 (by kernel_rfl) (by kernel_rfl) (by kernel_rfl) (by kernel_rfl))
    plainFnExactSubAdd
theorem overFnExactSubAdd : Rows.fnExactSubAddRow.holds Try.pinned (OpenSpec.ofChange Rows.fnExactSubAddSpec) :=
  OpenClaim.holds_of_wide 6 Try.f6 rfl rfl rfl rfl rfl rfl rfl ⟨rfl, rfl, rfl, rfl, rfl⟩ rfl rfl rfl rfl rfl (by kernel_rfl) Try.func6 (by kernel_rfl)
    (of_decide_eq_true (by kernel_rfl)) (by unfold Func.isWrapper; first | (rw [if_pos (by decide +kernel)]; kernel_rfl) | (rw [if_neg (by decide +kernel)]; exact ⟨rfl, rfl⟩))
    (fun os started H enc _ => liftedFnExactSubAdd os started H enc)
end Go.Proofs.Ytnjgnjejkmcgmaa.VS
namespace Go.Proofs.Ytnjgnjejkmcgmaa
theorem fnExactSubAdd_said : Rows.FnExactSubAddSaid := VS.overFnExactSubAdd
#print axioms fnExactSubAdd_said
end Go.Proofs.Ytnjgnjejkmcgmaa
