/- Contracts of the program's functions on the evaluator without names, and plain lemmas: XShapeI. -/
import Derived.Test.YtanfjghdjkiggaaXShape
import Derived.Test.YtanfjghdjkiggaaXSum
namespace Go.Proofs.Ytanfjghdjkiggaa.VS
set_option linter.unusedVariables false
set_option linter.unusedSimpArgs false
variable {P : Program}
def intss (g : Tag) (l : List (Tag × List Int)) : DV := .sl g (l.map fun p => ints p.1 p.2)
theorem clr_intss (g : Tag) (l : List (Tag × List Int)) : (intss g l).clr = iss .sub (l.map Prod.snd) := by
  simp only [intss, clr_sl, List.map_map, Function.comp_def, clr_ints, iss]
  rfl
theorem shape_intss {t e i : TypeId} {x : List DV} (hu : P.underlying t = some (.slice e)) (he : P.underlying e = some (.slice i)) (hi : P.underlying i = some (.int .i64)) (h : Shape P t x) :
    ∃ g l, x = [intss g l] ∧ l.length ≤ maxLen ∧ ∀ s, s ∈ l → s.2.length ≤ maxLen := by
  obtain ⟨g, l, rfl, h1, h2⟩ := shape_listOf (fun p : Tag × List Int => [ints p.1 p.2]) (fun p => p.2.length ≤ maxLen) hu (fun y hy => by
    obtain ⟨g, l, rfl, h1, _⟩ := shape_ints he hi hy
    exact ⟨(g, l), rfl, h1⟩) h
  exact ⟨g, l, by simp [intss, elemDV, he], h1, h2⟩
theorem rows_ok {l : List (Tag × List Int)} (h : ∀ s, s ∈ l → s.2.length ≤ maxLen) : ∀ i, i < (l.map Prod.snd).length → (rAt (l.map Prod.snd) i).length ≤ maxLen := by
  intro i hi
  rw [← rAt_lt hi]
  have hm := List.getElem_mem hi
  obtain ⟨s, hs, he⟩ := List.mem_map.1 hm
  rw [← he]; exact h s hs
end Go.Proofs.Ytanfjghdjkiggaa.VS
