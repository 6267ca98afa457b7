/- Functions of the library that are told by what they compute. -/
import Derived.Test.YtidlpcgcolcfgaaEngC
import Derived.Test.YtidlpcgcolcfgaaNat0
namespace Go.Proofs.Ytidlpcgcolcfgaa.VS
set_option linter.unusedVariables false
set_option linter.unusedSimpArgs false
theorem fits_strs : ∀ {l : List ByteArray} {ys : List DV}, DV.fits (l.map .str) ys → ys = l.map .str
  | [], ys, h => by simpa [DV.fits] using h
  | s :: l, ys, h => by
    simp only [List.map_cons, DV.fits, DV.fit] at h
    obtain ⟨v, vs, rfl, rfl, h3⟩ := h
    rw [fits_strs h3]; rfl
theorem strsOf_map : ∀ l : List ByteArray, strsOf (l.map .str) = some l
  | [] => rfl
  | s :: l => by simp [strsOf, strsOf_map l]
theorem join_ref : NatRef joinD (natV joinD) := by
  intro ds v h es p hf
  match ds, h with
  | [.sl t xs, .str sep], h =>
    unfold joinD at h
    obtain ⟨l, hl, h⟩ := Option.bind_eq_some_iff.1 h
    split at h
    case isFalse => simp at h
    rename_i hle
    simp only [Option.some.injEq] at h
    subst h
    have hxs := strsOf_eq hl
    simp only [DV.fits, DV.fit] at hf
    obtain ⟨v1, vs1, rfl, ⟨g', ys, rfl, h2, _⟩, v2, vs2, rfl, rfl, rfl⟩ := hf
    rw [hxs] at h2
    have hys := fits_strs h2
    subst hys
    refine ⟨.str (joinS l sep), Ids.none, ?_, rfl, ?_, ?_, ?_⟩
    · simp only [natV, List.map_cons, List.map_nil, datas, Option.map_some, Option.bind_some, joinD, strsOf_map, if_pos hle, ownV]
    · simp [DV.own]
    · simp [DV.own]
    · intro a ha; simp [Ids.none] at ha
end Go.Proofs.Ytidlpcgcolcfgaa.VS
