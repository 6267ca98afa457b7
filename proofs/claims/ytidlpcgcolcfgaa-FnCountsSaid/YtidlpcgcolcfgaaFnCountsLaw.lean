/- Whatever its arguments are, FnCounts returns true, and they read behind the call as before. Condition: none beyond the given row's. -/
import Derived.Test.YtidlpcgcolcfgaaRows
import Derived.Test.YtidlpcgcolcfgaaEnv
import Derived.Test.YtidlpcgcolcfgaaLin
import Derived.Test.YtidlpcgcolcfgaaXP1
import Derived.Test.YtidlpcgcolcfgaaXP2
namespace Go.Proofs.Ytidlpcgcolcfgaa.VS
set_option linter.unusedVariables false
set_option linter.unusedSimpArgs false
theorem plainFnCounts (xs : List (List DV)) (h : Args Try.prog Try.f4.params.toList xs) : ∃ A B, callV E [] 362 (argDVs Try.prog Try.f4.params.toList xs) [] Ids.none = some ⟨.d (.bool true), A, B⟩ := by
  rw [Try.params4] at h ⊢
  obtain ⟨x0, rfl⟩ := args1 h
  obtain ⟨⟨_, s0⟩, _⟩ := h
  obtain ⟨g0, a0, rfl, h0⟩ := shape_bytes Try.underlying22 Try.underlying5 s0
  obtain ⟨B, h⟩ := FnCounts_x a0 h0
  obtain ⟨A, B', h2⟩ := plain_of_X xok (k := 362) (vs := [bytesL g0 a0]) ⟨B, by simpa [DV.clrs, clr_str, clr_int, clr_bytesL] using h⟩
  exact ⟨A, B', by simpa [argDVs, elemDV, TT.enc, Try.underlying22] using h2⟩
set_option maxRecDepth 100000 in
theorem liftedFnCounts (os : Os) (started : os.Started) (H : Type) (enc : TypeId × Value → H) :
    ReturnsInHanded {} Try.checked os 4 .any (Rows.fnCountsSpec.pre6 enc Try.prog Try.f4 Rows.fnCountsRow.domain false) (Rows.fnCountsSpec.post enc Try.prog Try.f4 false true false false) :=
  law_lifted (C := Try.checked) (k := 362) (E := E) (S := [22, 5]) (tb := 4) env_ok (by kernel_rfl) started (by kernel_rfl) rfl (by kernel_rfl) Try.func4 rfl (by kernel_rfl) (by kernel_rfl) (by kernel_rfl) (by kernel_rfl) Try.underlying4
    (fun ds hd => by match ds, hd with | [a0], _ => rfl)
    (ChangeSpec.witness6 (enc := enc) (C := Try.checked) false ⟨#[], #[.slice none 0 0], []⟩ 8 (by kernel_rfl) (by kernel_rfl) (by kernel_rfl) (by kernel_rfl))
    plainFnCounts
theorem overFnCounts : Rows.fnCountsRow.holds Try.pinned (OpenSpec.ofChange Rows.fnCountsSpec) :=
  OpenClaim.holds_of_wide 4 Try.f4 rfl rfl rfl rfl rfl rfl rfl ⟨rfl, rfl, rfl, rfl, rfl⟩ rfl rfl rfl rfl rfl (by kernel_rfl) Try.func4 (by kernel_rfl)
    (of_decide_eq_true (by kernel_rfl)) (by unfold Func.isWrapper; first | (rw [if_pos (by decide +kernel)]; kernel_rfl) | (rw [if_neg (by decide +kernel)]; exact ⟨rfl, rfl⟩))
    (fun os started H enc _ => liftedFnCounts os started H enc)
end Go.Proofs.Ytidlpcgcolcfgaa.VS
namespace Go.Proofs.Ytidlpcgcolcfgaa
theorem fnCounts_said : Rows.FnCountsSaid := VS.overFnCounts
#print axioms fnCounts_said
end Go.Proofs.Ytidlpcgcolcfgaa
