/- Whatever its arguments are, FnExactTermText returns true, and they read behind the call as before. Condition: none beyond the given row's. -/
import Derived.Test.YtpmjooeehnmkcaaRows
import Derived.Test.YtpmjooeehnmkcaaOk
import Derived.Test.YtpmjooeehnmkcaaLin
import Derived.Test.YtpmjooeehnmkcaaXTerm
import Derived.Test.YtpmjooeehnmkcaaXTerm2
import Derived.Test.YtpmjooeehnmkcaaXTerm3
import Derived.Test.YtpmjooeehnmkcaaXSame
import Derived.Test.YtpmjooeehnmkcaaXEach
import Derived.Test.YtpmjooeehnmkcaaXParts
import Derived.Test.YtpmjooeehnmkcaaXCount
import Derived.Test.YtpmjooeehnmkcaaXSig
import Derived.Test.YtpmjooeehnmkcaaXName
import Derived.Test.YtpmjooeehnmkcaaXSigOk
import Derived.Test.YtpmjooeehnmkcaaXWeight
import Derived.Test.YtpmjooeehnmkcaaXBefore
import Derived.Test.YtpmjooeehnmkcaaXForm
import Derived.Test.YtpmjooeehnmkcaaXBind
import Derived.Test.YtpmjooeehnmkcaaXSubOk
import Derived.Test.YtpmjooeehnmkcaaXLit
import Derived.Test.YtpmjooeehnmkcaaXDigits
import Derived.Test.YtpmjooeehnmkcaaXInts
import Derived.Test.YtpmjooeehnmkcaaXText
import Derived.Test.YtpmjooeehnmkcaaXTermT
import Derived.Test.YtpmjooeehnmkcaaXLaw
import Derived.Test.YtpmjooeehnmkcaaXShape
import Derived.Test.YtpmjooeehnmkcaaXRng
namespace Go.Proofs.Ytpmjooeehnmkcaa.VS
set_option linter.unusedVariables false
set_option linter.unusedSimpArgs false
theorem plainFnExactTermText (xs : List (List DV)) (h : Args Try.prog Try.f11.params.toList xs) : ∃ A B, callV E [] 100 (argDVs Try.prog Try.f11.params.toList xs) [] Ids.none = some ⟨.d (.bool true), A, B⟩ := by
  rw [Try.params11] at h ⊢
  obtain ⟨x0, x1, rfl⟩ := args2 h
  obtain ⟨⟨_, s0⟩, ⟨⟨_, s1⟩, _⟩⟩ := h
  obtain ⟨g0, a0, rfl, h0, o0⟩ := (shape_syms Try.underlying34 Try.underlying78 (by kernel_rfl) Try.underlying9 Try.underlying3 Try.underlying4 (by refine ⟨?_, ?_, ?_, ?_⟩ <;> kernel_rfl)) s0
  obtain ⟨a1, rfl, h1⟩ := (shape_term Try.underlying24 (by kernel_rfl) Try.underlying3 Try.underlying22 (by refine ⟨?_, ?_, ?_⟩ <;> kernel_rfl) _ _ (Nat.lt_succ_self _)) s1
  obtain ⟨B, h⟩ := FnExactTermText_x a0 h0 o0 a1.erase (TT.ok_erase _ h1) (TT.rng_erase _ h1)
  obtain ⟨A, B', h2⟩ := plain_of_X xok (k := 100) (vs := [syms g0 a0, a1.enc]) ⟨B, by simpa [DV.clrs, clr_str, clr_int, clr_syms, TT.clr_enc] using h⟩
  exact ⟨A, B', by simpa [argDVs, elemDV, TT.enc, Try.underlying24, Try.underlying34] using h2⟩
set_option maxRecDepth 100000 in
theorem liftedFnExactTermText (os : Os) (started : os.Started) (H : Type) (enc : TypeId × Value → H) :
    ReturnsInHanded {} Try.checked os 11 .any (Rows.fnExactTermTextSpec.pre6 enc Try.prog Try.f11 Rows.fnExactTermTextRow.domain false) (Rows.fnExactTermTextSpec.post enc Try.prog Try.f11 false true false false) :=
  law_lifted (C := Try.checked) (k := 100) (E := E) (S := [34, 78, 9, 3, 4, 24, 22]) (tb := 4) env_ok (by kernel_rfl) started (by kernel_rfl) rfl (by kernel_rfl) Try.func11 rfl (by kernel_rfl) (by kernel_rfl) (by kernel_rfl) (by kernel_rfl) Try.underlying4
    (fun ds hd => by match ds, hd with | [a0, a1], _ => rfl)
    (ChangeSpec.witness6 (enc := enc) (C := Try.checked) false ⟨#[], #[.slice none 0 0, .agg #[.int .i64 0, .int .i64 0, .slice none 0 0]], []⟩ 8 (by kernel_rfl) (by kernel_rfl) (by kernel_rfl) (by kernel_rfl))
    plainFnExactTermText
theorem overFnExactTermText : Rows.fnExactTermTextRow.holds Try.pinned (OpenSpec.ofChange Rows.fnExactTermTextSpec) :=
  OpenClaim.holds_of_wide 11 Try.f11 rfl rfl rfl rfl rfl rfl rfl ⟨rfl, rfl, rfl, rfl, rfl⟩ rfl rfl rfl rfl rfl (by kernel_rfl) Try.func11 (by kernel_rfl)
    (of_decide_eq_true (by kernel_rfl)) (by unfold Func.isWrapper; first | (rw [if_pos (by decide +kernel)]; kernel_rfl) | (rw [if_neg (by decide +kernel)]; exact ⟨rfl, rfl⟩))
    (fun os started H enc _ => liftedFnExactTermText os started H enc)
end Go.Proofs.Ytpmjooeehnmkcaa.VS
namespace Go.Proofs.Ytpmjooeehnmkcaa
theorem fnExactTermText_said : Rows.FnExactTermTextSaid := VS.overFnExactTermText
#print axioms fnExactTermText_said
end Go.Proofs.Ytpmjooeehnmkcaa
