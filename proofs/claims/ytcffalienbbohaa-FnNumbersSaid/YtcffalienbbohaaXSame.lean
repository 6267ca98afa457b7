/- Contracts of the program's functions on the evaluator without names, and plain lemmas: XSame. -/
import Derived.Test.YtcffalienbbohaaXTerm3
namespace Go.Proofs.Ytcffalienbbohaa.VS
set_option linter.unusedVariables false
set_option linter.unusedSimpArgs false
theorem cmp_zero (f v : Int) (ks : List T) (f' v' : Int) (ks' : List T) : T.cmp (.node f v ks) (.node f' v' ks') = 0 ↔ f = f' ∧ v = v' ∧ ks.length = ks'.length ∧ T.cmps ks ks' = 0 := by
  rw [cmp_node]; unfold cmpP
  constructor
  · intro h
    iterate 6 (split at h; · omega)
    exact ⟨by omega, by omega, by omega, h⟩
  · rintro ⟨rfl, rfl, h, h'⟩
    simp [h, h']
theorem leftOf_neg {left : Int} {n : Nat} (h : left - n < 0) : leftOf left n = -1 := by unfold leftOf; rw [if_pos h]
theorem leftOf_pos {left : Int} {n : Nat} (h : ¬ left - n < 0) : leftOf left n = left - n := by unfold leftOf; rw [if_neg h]
end Go.Proofs.Ytcffalienbbohaa.VS
