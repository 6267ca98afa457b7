/- Whatever its arguments are, FnExactSubText returns true, and they read behind the call as before. Condition: none beyond the given row's. -/
import Derived.Test.YtpmjooeehnmkcaaRows
import Derived.Test.YtpmjooeehnmkcaaOk
import Derived.Test.YtpmjooeehnmkcaaLin
import Derived.Test.YtpmjooeehnmkcaaXTerm
import Derived.Test.YtpmjooeehnmkcaaXTerm2
import Derived.Test.YtpmjooeehnmkcaaXTerm3
import Derived.Test.YtpmjooeehnmkcaaXSame
import Derived.Test.YtpmjooeehnmkcaaXEach
import Derived.Test.YtpmjooeehnmkcaaXParts
import Derived.Test.YtpmjooeehnmkcaaXCount
import Derived.Test.YtpmjooeehnmkcaaXSig
import Derived.Test.YtpmjooeehnmkcaaXName
import Derived.Test.YtpmjooeehnmkcaaXSigOk
import Derived.Test.YtpmjooeehnmkcaaXWeight
import Derived.Test.YtpmjooeehnmkcaaXBefore
import Derived.Test.YtpmjooeehnmkcaaXForm
import Derived.Test.YtpmjooeehnmkcaaXBind
import Derived.Test.YtpmjooeehnmkcaaXSubOk
import Derived.Test.YtpmjooeehnmkcaaXLit
import Derived.Test.YtpmjooeehnmkcaaXDigits
import Derived.Test.YtpmjooeehnmkcaaXInts
import Derived.Test.YtpmjooeehnmkcaaXText
import Derived.Test.YtpmjooeehnmkcaaXTermT
import Derived.Test.YtpmjooeehnmkcaaXSubT
import Derived.Test.YtpmjooeehnmkcaaXLaw
import Derived.Test.YtpmjooeehnmkcaaXShape
import Derived.Test.YtpmjooeehnmkcaaXRng
namespace Go.Proofs.Ytpmjooeehnmkcaa.VS
set_option linter.unusedVariables false
set_option linter.unusedSimpArgs false
theorem plainFnExactSubText (xs : List (List DV)) (h : Args Try.prog Try.f13.params.toList xs) : ∃ A B, callV E [] 89 (argDVs Try.prog Try.f13.params.toList xs) [] Ids.none = some ⟨.d (.bool true), A, B⟩ := by
  rw [Try.params13] at h ⊢
  obtain ⟨x0, x1, rfl⟩ := args2 h
  obtain ⟨⟨_, s0⟩, ⟨⟨_, s1⟩, _⟩⟩ := h
  obtain ⟨g0, a0, rfl, h0, o0⟩ := (shape_syms Try.underlying34 Try.underlying78 (by kernel_rfl) Try.underlying9 Try.underlying3 Try.underlying4 (by refine ⟨?_, ?_, ?_, ?_⟩ <;> kernel_rfl)) s0
  obtain ⟨g1, a1, rfl, h1, o1⟩ := shape_binds Try.underlying61 Try.underlying94 (by kernel_rfl) Try.underlying3 (fun x => (shape_term Try.underlying24 (by kernel_rfl) Try.underlying3 Try.underlying22 (by refine ⟨?_, ?_, ?_⟩ <;> kernel_rfl) _ _ (Nat.lt_succ_self _))) (by refine ⟨?_, ?_, ?_⟩ <;> kernel_rfl) s1
  obtain ⟨B, h⟩ := FnExactSubText_x a0 h0 o0 (a1.map BB.erase) (by simpa using h1) (BB.oks_erase o1) (BB.rngs_erase o1)
  obtain ⟨A, B', h2⟩ := plain_of_X xok (k := 89) (vs := [syms g0 a0, bindsV g1 a1]) ⟨B, by simpa [DV.clrs, clr_str, clr_int, clr_syms, clr_bindsV] using h⟩
  exact ⟨A, B', by simpa [argDVs, elemDV, TT.enc, Try.underlying34, Try.underlying61] using h2⟩
set_option maxRecDepth 100000 in
theorem liftedFnExactSubText (os : Os) (started : os.Started) (H : Type) (enc : TypeId × Value → H) :
    ReturnsInHanded {} Try.checked os 13 .any (Rows.fnExactSubTextSpec.pre6 enc Try.prog Try.f13 Rows.fnExactSubTextRow.domain false) (Rows.fnExactSubTextSpec.post enc Try.prog Try.f13 false true false false) :=
  law_lifted (C := Try.checked) (k := 89) (E := E) (S := [34, 78, 9, 3, 4, 61, 94, 24, 22]) (tb := 4) env_ok (by kernel_rfl) started (by kernel_rfl) rfl (by kernel_rfl) Try.func13 rfl (by kernel_rfl) (by kernel_rfl) (by kernel_rfl) (by kernel_rfl) Try.underlying4
    (fun ds hd => by match ds, hd with | [a0, a1], _ => rfl)
    (ChangeSpec.witness6 (enc := enc) (C := Try.checked) false ⟨#[], #[.slice none 0 0, .slice none 0 0], []⟩ 8 (by kernel_rfl) (by kernel_rfl) (by kernel_rfl) (by kernel_rfl))
    plainFnExactSubText
theorem overFnExactSubText : Rows.fnExactSubTextRow.holds Try.pinned (OpenSpec.ofChange Rows.fnExactSubTextSpec) :=
  OpenClaim.holds_of_wide 13 Try.f13 rfl rfl rfl rfl rfl rfl rfl ⟨rfl, rfl, rfl, rfl, rfl⟩ rfl rfl rfl rfl rfl (by kernel_rfl) Try.func13 (by kernel_rfl)
    (of_decide_eq_true (by kernel_rfl)) (by unfold Func.isWrapper; first | (rw [if_pos (by decide +kernel)]; kernel_rfl) | (rw [if_neg (by decide +kernel)]; exact ⟨rfl, rfl⟩))
    (fun os started H enc _ => liftedFnExactSubText os started H enc)
end Go.Proofs.Ytpmjooeehnmkcaa.VS
namespace Go.Proofs.Ytpmjooeehnmkcaa
theorem fnExactSubText_said : Rows.FnExactSubTextSaid := VS.overFnExactSubText
#print axioms fnExactSubText_said
end Go.Proofs.Ytpmjooeehnmkcaa
