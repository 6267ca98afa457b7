/- Contracts of the program's functions on the evaluator without names, and plain lemmas: XEach. -/
import Derived.Test.YtcffalienbbohaaXTerm3
namespace Go.Proofs.Ytcffalienbbohaa.VS
set_option linter.unusedVariables false
set_option linter.unusedSimpArgs false
mutual
/-- All terms within a term, itself first. -/
def T.fold {σ : Type} (e : T → σ → σ) : T → σ → σ
  | .node f v ks, s => T.folds e ks (e (.node f v ks) s)
def T.folds {σ : Type} (e : T → σ → σ) : List T → σ → σ
  | [], s => s
  | t :: r, s => T.folds e r (T.fold e t s)
end
theorem set_at {α : Type} (B : List α) (x v : α) (r : List α) : (B ++ x :: r).set B.length v = B ++ v :: r := by simp
theorem get_at {α : Type} (B : List α) (x : α) (r : List α) : (B ++ x :: r)[B.length]? = some x := by simp
theorem set_at1 {α : Type} (B : List α) (x y v : α) (r : List α) : (B ++ x :: y :: r).set (B.length + 1) v = B ++ x :: v :: r := by
  rw [List.set_append_right _ _ (by omega), show B.length + 1 - B.length = 1 by omega]; rfl
theorem get_at1 {α : Type} (B : List α) (x y : α) (r : List α) : (B ++ x :: y :: r)[B.length + 1]? = some y := by
  rw [List.getElem?_append_right (by omega), show B.length + 1 - B.length = 1 by omega]; rfl
theorem take_at {α : Type} (B r : List α) : (B ++ r).take B.length = B := by simp
theorem take_at1 {α : Type} (B : List α) (x : α) (r : List α) : (B ++ x :: r).take (B.length + 1) = B ++ [x] := by
  rw [List.take_append, List.take_of_length_le (by omega)]; simp
theorem head_cut {L : Nat} {live : List Nat} {s : XS} {r' : List (Nat × AV)} {B e : Boxs} (h : keep s.r live = r') (hs : safeRegs L r' = true) (hl : B.length = L) (he : s.B = B ++ e) : xheadOf L live s = some ⟨r', B⟩ := by
  unfold xheadOf
  rw [h, he, if_pos ⟨hs, by simp; omega⟩, ← hl, take_at]
def stepE {σ : Type} (e : T → σ → σ) (l : List T) (s : σ) (i : Nat) : σ ⊕ Unit := .inl (T.fold e (tAt l i) s)
theorem runE {σ : Type} (e : T → σ → σ) (l : List T) : ∀ (k i : Nat) (s : σ), i + k = l.length → runN (stepE e l) k s i = .inl (T.folds e (l.drop i) s)
  | 0, i, s, h => by
    have h1 : l.drop i = [] := List.drop_eq_nil_of_le (by omega)
    simp [runN, h1, T.folds]
  | k + 1, i, s, h => by
    have hlt : i < l.length := by omega
    rw [List.drop_eq_getElem_cons hlt, tAt_lt hlt]
    simp only [runN, stepE, T.folds]
    exact runE e l k (i + 1) _ (by omega)
end Go.Proofs.Ytcffalienbbohaa.VS
