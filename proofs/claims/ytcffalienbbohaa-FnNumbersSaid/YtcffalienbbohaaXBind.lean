/- Contracts of the program's functions on the evaluator without names, and plain lemmas: XBind. -/
import Derived.Test.YtcffalienbbohaaXForm
import Derived.Test.YtcffalienbbohaaXCount
namespace Go.Proofs.Ytcffalienbbohaa.VS
set_option linter.unusedVariables false
set_option linter.unusedSimpArgs false
/-! ## Substitutions -/
structure Bd where
  v : Int
  t : T
def Bd.enc (g : Tag) (b : Bd) : DV := .agg [.int .i64 b.v, .int .i64 b.t.f, .int .i64 b.t.v, terms g b.t.kids]
def Bd.ok (b : Bd) : Prop := (-9223372036854775808 ≤ b.v ∧ b.v ≤ 9223372036854775807) ∧ b.t.ok
abbrev binds (g : Tag) (l : List Bd) : DV := .sl g (l.map (Bd.enc g))
@[simp] theorem Bd.cells_enc (g : Tag) (x : Bd) : (x.enc g).cells = [.int .i64 x.v, .int .i64 x.t.f, .int .i64 x.t.v, terms g x.t.kids] := rfl
@[simp] theorem Bd.cellsA_enc (g : Tag) (x : Bd) : (AV.d (x.enc g)).cells = [.d (.int .i64 x.v), .d (.int .i64 x.t.f), .d (.int .i64 x.t.v), .d (terms g x.t.kids)] := rfl
@[simp] theorem Bd.isCell_enc (g : Tag) (x : Bd) : (x.enc g).isCell = false := rfl
@[simp] theorem Bd.isAgg_enc (g : Tag) (x : Bd) : isAgg (x.enc g) = true := rfl
@[simp] theorem Bd.clr_enc (g : Tag) (x : Bd) : (x.enc g).clr = x.enc .sub := by
  simp only [Bd.enc, DV.clr, DV.clrs, terms, DV.clrs_map, clr_terms]
@[simp high] theorem Bd.clr_encs (g : Tag) (l : List Bd) : (l.map (Bd.enc g)).map DV.clr = l.map (Bd.enc .sub) := by simp [List.map_map, Function.comp_def]
@[simp] theorem Bd.agg_enc (g : Tag) (x : Bd) : DV.agg [.int .i64 x.v, .int .i64 x.t.f, .int .i64 x.t.v, terms g x.t.kids] = x.enc g := rfl
def bAt (l : List Bd) (i : Nat) : Bd := (l[i]?).getD ⟨0, .node 0 0 []⟩
theorem bAt_lt {l : List Bd} {i : Nat} (h : i < l.length) : l[i] = bAt l i := by simp [bAt, h]
theorem bAt_mem {l : List Bd} {i : Nat} (h : i < l.length) : bAt l i ∈ l := by rw [← bAt_lt h]; exact List.getElem_mem h
def bindsSize (l : List Bd) : Nat := l.length + sumW (fun i => (bAt l i).t.inner) 0 l.length
theorem bind_le (l : List Bd) (i : Nat) (hi : i < l.length) : (bAt l i).t.inner ≤ bindsSize l := by
  have := sumW_ge (fun i => (bAt l i).t.inner) l.length 0 i (Nat.zero_le _) (by omega)
  unfold bindsSize; omega
theorem bindEncs_ok (g : Tag) (l : List Bd) : ∀ x : DV, x ∈ l.map (Bd.enc g) → elemOK true 4 x := by
  intro x hx; simp only [List.mem_map] at hx; obtain ⟨n, _, rfl⟩ := hx; exact ⟨by simp, by simp [isCell_int, isCell_sl], fun _ => ⟨_, rfl⟩, by simp⟩
def zB : DV := .agg [.int .i64 0, .int .i64 0, .int .i64 0, .sl U []]
end Go.Proofs.Ytcffalienbbohaa.VS
