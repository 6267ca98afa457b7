/- Whatever its arguments are, FnNumbers returns true, and they read behind the call as before. Condition: none beyond the given row's. -/
import Derived.Test.YtcffalienbbohaaRows
import Derived.Test.YtcffalienbbohaaEnv
import Derived.Test.YtcffalienbbohaaLin
import Derived.Test.YtcffalienbbohaaXTerm
import Derived.Test.YtcffalienbbohaaXTerm2
import Derived.Test.YtcffalienbbohaaXTerm3
import Derived.Test.YtcffalienbbohaaXSame
import Derived.Test.YtcffalienbbohaaXEach
import Derived.Test.YtcffalienbbohaaXParts
import Derived.Test.YtcffalienbbohaaXCount
import Derived.Test.YtcffalienbbohaaXSig
import Derived.Test.YtcffalienbbohaaXName
import Derived.Test.YtcffalienbbohaaXSigOk
import Derived.Test.YtcffalienbbohaaXWeight
import Derived.Test.YtcffalienbbohaaXBefore
import Derived.Test.YtcffalienbbohaaXForm
import Derived.Test.YtcffalienbbohaaXBind
import Derived.Test.YtcffalienbbohaaXInts
import Derived.Test.YtcffalienbbohaaXNumA
import Derived.Test.YtcffalienbbohaaNumW
import Derived.Test.YtcffalienbbohaaXVars
import Derived.Test.YtcffalienbbohaaXMarkI
import Derived.Test.YtcffalienbbohaaXNumLaw
import Derived.Test.YtcffalienbbohaaXDigits
import Derived.Test.YtcffalienbbohaaXNum
import Derived.Test.YtcffalienbbohaaXText
import Derived.Test.YtcffalienbbohaaXNums
import Derived.Test.YtcffalienbbohaaXDraw
import Derived.Test.YtcffalienbbohaaXDrawL
import Derived.Test.YtcffalienbbohaaXNumbersX
import Derived.Test.YtcffalienbbohaaXLit
import Derived.Test.YtcffalienbbohaaXLaw
import Derived.Test.YtcffalienbbohaaXShape
namespace Go.Proofs.Ytcffalienbbohaa.VS
set_option linter.unusedVariables false
set_option linter.unusedSimpArgs false
theorem plainFnNumbers (xs : List (List DV)) (h : Args Try.prog Try.f7.params.toList xs) : ∃ A B, callV E [] 198 (argDVs Try.prog Try.f7.params.toList xs) [] Ids.none = some ⟨.d (.bool true), A, B⟩ := by
  rw [Try.params7] at h ⊢
  obtain ⟨x0, rfl⟩ := args1 h
  obtain ⟨⟨_, s0⟩, _⟩ := h
  obtain ⟨g0, a0, rfl, h0⟩ := shape_bytes Try.underlying31 Try.underlying5 s0
  obtain ⟨B, h⟩ := FnNumbers_x a0 h0
  obtain ⟨A, B', h2⟩ := plain_of_X xok (k := 198) (vs := [bytesL g0 a0]) ⟨B, by simpa [DV.clrs, clr_str, clr_int, clr_bytesL] using h⟩
  exact ⟨A, B', by simpa [argDVs, elemDV, TT.enc, Try.underlying31] using h2⟩
set_option maxRecDepth 100000 in
theorem liftedFnNumbers (os : Os) (started : os.Started) (H : Type) (enc : TypeId × Value → H) :
    ReturnsInHanded {} Try.checked os 7 .any (Rows.fnNumbersSpec.pre6 enc Try.prog Try.f7 Rows.fnNumbersRow.domain false) (Rows.fnNumbersSpec.post enc Try.prog Try.f7 false true false false) :=
  law_lifted (C := Try.checked) (k := 198) (E := E) (S := [31, 5]) (tb := 4) env_ok (by kernel_rfl) started (by kernel_rfl) rfl (by kernel_rfl) Try.func7 rfl (by kernel_rfl) (by kernel_rfl) (by kernel_rfl) (by kernel_rfl) Try.underlying4
    (fun ds hd => by match ds, hd with | [a0], _ => rfl)
    (ChangeSpec.witness6 (enc := enc) (C := Try.checked) false ⟨#[], #[.slice none 0 0], []⟩ 8 (by kernel_rfl) (by kernel_rfl) (by kernel_rfl) (by kernel_rfl))
    plainFnNumbers
theorem overFnNumbers : Rows.fnNumbersRow.holds Try.pinned (OpenSpec.ofChange Rows.fnNumbersSpec) :=
  OpenClaim.holds_of_wide 7 Try.f7 rfl rfl rfl rfl rfl rfl rfl ⟨rfl, rfl, rfl, rfl, rfl⟩ rfl rfl rfl rfl rfl (by kernel_rfl) Try.func7 (by kernel_rfl)
    (of_decide_eq_true (by kernel_rfl)) (by unfold Func.isWrapper; first | (rw [if_pos (by decide +kernel)]; kernel_rfl) | (rw [if_neg (by decide +kernel)]; exact ⟨rfl, rfl⟩))
    (fun os started H enc _ => liftedFnNumbers os started H enc)
end Go.Proofs.Ytcffalienbbohaa.VS
namespace Go.Proofs.Ytcffalienbbohaa
theorem fnNumbers_said : Rows.FnNumbersSaid := VS.overFnNumbers
#print axioms fnNumbers_said
end Go.Proofs.Ytcffalienbbohaa
