/- Contracts of the program's functions on the evaluator without names, and plain lemmas: XCount. -/
import Derived.Test.YtcffalienbbohaaXParts
namespace Go.Proofs.Ytcffalienbbohaa.VS
set_option linter.unusedVariables false
set_option linter.unusedSimpArgs false
mutual
theorem fold_gen (w : T → Int) (e : T → Int → Int) (he : ∀ x m, e x (IntKind.i64.wrap m) = IntKind.i64.wrap (m + w x)) : ∀ (t : T) (n : Int), T.fold e t (IntKind.i64.wrap n) = IntKind.i64.wrap (n + T.sum w t)
  | .node f v ks, n => by
    simp only [T.fold, T.sum]
    rw [he, folds_gen w e he ks, Int.add_assoc]
theorem folds_gen (w : T → Int) (e : T → Int → Int) (he : ∀ x m, e x (IntKind.i64.wrap m) = IntKind.i64.wrap (m + w x)) : ∀ (l : List T) (n : Int), T.folds e l (IntKind.i64.wrap n) = IntKind.i64.wrap (n + T.sums w l)
  | [], n => by simp [T.folds, T.sums]
  | t :: r, n => by
    simp only [T.folds, T.sums]
    rw [fold_gen w e he t, folds_gen w e he r, Int.add_assoc]
end
def wC (n : Int) (x : T) : Int := if x.f = -1 ∧ x.v = n then 1 else 0
def eC (n : Int) (x : T) (m : Int) : Int := if x.f = -1 ∧ x.v = n then IntKind.i64.wrap (m + 1) else m
theorem eC_gen (n : Int) (x : T) (m : Int) : eC n x (IntKind.i64.wrap m) = IntKind.i64.wrap (m + wC n x) := by
  unfold eC wC
  split
  · exact wrap_add m 1
  · simp
end Go.Proofs.Ytcffalienbbohaa.VS
