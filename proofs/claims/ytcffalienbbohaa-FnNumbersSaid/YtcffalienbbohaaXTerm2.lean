/- Contracts of the program's functions on the evaluator without names, and plain lemmas: XTerm2. -/
import Derived.Test.YtcffalienbbohaaXTerm
namespace Go.Proofs.Ytcffalienbbohaa.VS
set_option linter.unusedVariables false
set_option linter.unusedSimpArgs false
mutual
/-- No row is longer than Go allows. -/
def T.ok : T → Prop
  | .node _ _ ks => ks.length ≤ maxLen ∧ T.oks ks
def T.oks : List T → Prop
  | [] => True
  | t :: r => t.ok ∧ T.oks r
end
theorem T.oks_iff : ∀ l : List T, T.oks l ↔ ∀ t, t ∈ l → t.ok
  | [] => by simp [T.oks]
  | t :: r => by simp [T.oks, T.oks_iff r]
/-! toTerm: the same term -/
theorem encs_ok (g : Tag) (l : List T) : ∀ x : DV, x ∈ l.map (T.enc g) → elemOK true 3 x := by
  intro x hx
  simp only [List.mem_map] at hx
  obtain ⟨t, _, rfl⟩ := hx
  exact ⟨by simp, by simp [isCell_int, isCell_sl], fun _ => ⟨_, T.enc_eq g t⟩, by simp⟩
theorem encs_cells (g : Tag) (l : List T) : ∀ x : DV, x ∈ l.map (T.enc g) → x.cells.length = 3 := fun x hx => (encs_ok g l x hx).1
def zT : DV := .agg [.int .i64 0, .int .i64 0, .sl U []]
def rowT (l : List T) (i : Nat) : List AV := rowCells (Go.Proofs.Ytcffalienbbohaa.VS.filled (l.map (T.enc U)) zT i)
theorem rowT_len (l : List T) (i : Nat) : (rowT l i).length = l.length * 3 := by
  unfold rowT
  rw [rowCells_len (sz := 3) (filled_cells (encs_cells U l) rfl i), filled_len]; simp
theorem rowT_set (l : List T) (i : Nat) (h : i < l.length) : splice (rowT l i) (i * 3) [.d (.int .i64 (tAt l i).f), .d (.int .i64 (tAt l i).v), .d (terms U (tAt l i).kids)] = rowT l (i + 1) := by
  have h1 := splice_row (sz := 3) (i := i) (es := Go.Proofs.Ytcffalienbbohaa.VS.filled (l.map (T.enc U)) zT i) (e := (tAt l i).enc U) (filled_cells (encs_cells U l) rfl i) (by simp) (by rw [filled_len]; simpa using h)
  have h2 := filled_set (l.map (T.enc U)) zT i (by simpa using h)
  simp only [T.cells_enc, List.map_cons, List.map_nil] at h1
  unfold rowT
  rw [h1, ← h2]
  simp [tAt_lt h]
theorem rowT_zero (l : List T) : rowT l 0 = ((List.replicate l.length zT).flatMap DV.cells).map .d := by
  unfold rowT; rw [filled_zero]; simp [rowCells, flat]
theorem rowT_all (l : List T) : rowT l l.length = rowCells (l.map (T.enc U)) := by
  unfold rowT
  have := filled_all (l.map (T.enc U)) zT
  rw [List.length_map] at this
  rw [this]
end Go.Proofs.Ytcffalienbbohaa.VS
