/- Whatever its arguments are, FnExactGround returns true, and they read behind the call as before. Condition: none beyond the given row's. -/
import Derived.Test.YtpmjooeehnmkcaaRows
import Derived.Test.YtpmjooeehnmkcaaEnv
import Derived.Test.YtpmjooeehnmkcaaLin
import Derived.Test.YtpmjooeehnmkcaaXTerm
import Derived.Test.YtpmjooeehnmkcaaXTerm2
import Derived.Test.YtpmjooeehnmkcaaXTerm3
import Derived.Test.YtpmjooeehnmkcaaXSame
import Derived.Test.YtpmjooeehnmkcaaXEach
import Derived.Test.YtpmjooeehnmkcaaXParts
import Derived.Test.YtpmjooeehnmkcaaXCount
import Derived.Test.YtpmjooeehnmkcaaXSig
import Derived.Test.YtpmjooeehnmkcaaXName
import Derived.Test.YtpmjooeehnmkcaaXSigOk
import Derived.Test.YtpmjooeehnmkcaaXInts
import Derived.Test.YtpmjooeehnmkcaaXNumA
import Derived.Test.YtpmjooeehnmkcaaNumW
import Derived.Test.YtpmjooeehnmkcaaXVars
import Derived.Test.YtpmjooeehnmkcaaXLit
import Derived.Test.YtpmjooeehnmkcaaXBind
import Derived.Test.YtpmjooeehnmkcaaXLaw
import Derived.Test.YtpmjooeehnmkcaaXShape
namespace Go.Proofs.Ytpmjooeehnmkcaa.VS
set_option linter.unusedVariables false
set_option linter.unusedSimpArgs false
theorem plainFnExactGround (xs : List (List DV)) (h : Args Try.prog Try.f10.params.toList xs) : ∃ A B, callV E [] 101 (argDVs Try.prog Try.f10.params.toList xs) [] Ids.none = some ⟨.d (.bool true), A, B⟩ := by
  rw [Try.params10] at h ⊢
  obtain ⟨x0, rfl⟩ := args1 h
  obtain ⟨⟨_, s0⟩, _⟩ := h
  obtain ⟨a0, rfl, h0⟩ := (shape_term Try.underlying24 (by kernel_rfl) Try.underlying3 Try.underlying22 (by refine ⟨?_, ?_, ?_⟩ <;> kernel_rfl) _ _ (Nat.lt_succ_self _)) s0
  obtain ⟨B, h⟩ := FnExactGround_x a0.erase (TT.ok_erase _ h0)
  obtain ⟨A, B', h2⟩ := plain_of_X xok (k := 101) (vs := [a0.enc]) ⟨B, by simpa [DV.clrs, clr_str, clr_int, TT.clr_enc] using h⟩
  exact ⟨A, B', by simpa [argDVs, elemDV, TT.enc, Try.underlying24] using h2⟩
set_option maxRecDepth 100000 in
theorem liftedFnExactGround (os : Os) (started : os.Started) (H : Type) (enc : TypeId × Value → H) :
    ReturnsInHanded {} Try.checked os 10 .any (Rows.fnExactGroundSpec.pre6 enc Try.prog Try.f10 Rows.fnExactGroundRow.domain false) (Rows.fnExactGroundSpec.post enc Try.prog Try.f10 false true false false) :=
  law_lifted (C := Try.checked) (k := 101) (E := E) (S := [24, 3, 22]) (tb := 4) env_ok (by kernel_rfl) started (by kernel_rfl) rfl (by kernel_rfl) Try.func10 rfl (by kernel_rfl) (by kernel_rfl) (by kernel_rfl) (by kernel_rfl) Try.underlying4
    (fun ds hd => by match ds, hd with | [a0], _ => rfl)
    (ChangeSpec.witness6 (enc := enc) (C := Try.checked) false ⟨#[], #[.agg #[.int .i64 0, .int .i64 0, .slice none 0 0]], []⟩ 8 (by kernel_rfl) (by kernel_rfl) (by kernel_rfl) (by kernel_rfl))
    plainFnExactGround
theorem overFnExactGround : Rows.fnExactGroundRow.holds Try.pinned (OpenSpec.ofChange Rows.fnExactGroundSpec) :=
  OpenClaim.holds_of_wide 10 Try.f10 rfl rfl rfl rfl rfl rfl rfl ⟨rfl, rfl, rfl, rfl, rfl⟩ rfl rfl rfl rfl rfl (by kernel_rfl) Try.func10 (by kernel_rfl)
    (of_decide_eq_true (by kernel_rfl)) (by unfold Func.isWrapper; first | (rw [if_pos (by decide +kernel)]; kernel_rfl) | (rw [if_neg (by decide +kernel)]; exact ⟨rfl, rfl⟩))
    (fun os started H enc _ => liftedFnExactGround os started H enc)
end Go.Proofs.Ytpmjooeehnmkcaa.VS
namespace Go.Proofs.Ytpmjooeehnmkcaa
theorem fnExactGround_said : Rows.FnExactGroundSaid := VS.overFnExactGround
#print axioms fnExactGround_said
end Go.Proofs.Ytpmjooeehnmkcaa
