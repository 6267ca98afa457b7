/- Contracts of the program's functions on the evaluator without names, and plain lemmas: XRng. -/
import Derived.Test.YtpmjooeehnmkcaaXShape
import Derived.Test.YtpmjooeehnmkcaaXTermT
namespace Go.Proofs.Ytpmjooeehnmkcaa.VS
set_option linter.unusedVariables false
set_option linter.unusedSimpArgs false
mutual
theorem TT.rng_erase : ∀ t : TT, t.ok → t.erase.rng
  | .node f v g ks, h => by
    simp only [TT.ok] at h
    simp only [TT.erase, T.rng]
    exact ⟨h.2.1, TT.rngs_erase ks h.2.2.2⟩
theorem TT.rngs_erase : ∀ l : List TT, TT.oks l → T.rngs (TT.erases l)
  | [], _ => by simp [TT.erases, T.rngs]
  | t :: r, h => by
    simp only [TT.oks] at h
    simp only [TT.erases, T.rngs]
    exact ⟨TT.rng_erase t h.1, TT.rngs_erase r h.2⟩
end
theorem BB.rngs_erase {l : List BB} (h : ∀ s, s ∈ l → BB.ok s) : ∀ s, s ∈ l.map BB.erase → s.t.rng := by
  intro s hs
  obtain ⟨t, ht, rfl⟩ := List.mem_map.1 hs
  exact TT.rng_erase _ (h t ht).2
end Go.Proofs.Ytpmjooeehnmkcaa.VS
