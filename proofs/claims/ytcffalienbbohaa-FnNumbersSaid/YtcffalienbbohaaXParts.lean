/- Contracts of the program's functions on the evaluator without names, and plain lemmas: XParts. -/
import Derived.Test.YtcffalienbbohaaXEach
import Derived.Test.YtcffalienbbohaaXSame
namespace Go.Proofs.Ytcffalienbbohaa.VS
set_option linter.unusedVariables false
set_option linter.unusedSimpArgs false
theorem wrap_add (a b : Int) : IntKind.i64.wrap (IntKind.i64.wrap a + b) = IntKind.i64.wrap (a + b) := by
  show (if (true && decide (((if (true && decide (a % 18446744073709551616 ≥ 9223372036854775808)) = true then a % 18446744073709551616 - 18446744073709551616 else a % 18446744073709551616) + b) % 18446744073709551616 ≥ 9223372036854775808)) = true then ((if (true && decide (a % 18446744073709551616 ≥ 9223372036854775808)) = true then a % 18446744073709551616 - 18446744073709551616 else a % 18446744073709551616) + b) % 18446744073709551616 - 18446744073709551616 else ((if (true && decide (a % 18446744073709551616 ≥ 9223372036854775808)) = true then a % 18446744073709551616 - 18446744073709551616 else a % 18446744073709551616) + b) % 18446744073709551616) = (if (true && decide ((a + b) % 18446744073709551616 ≥ 9223372036854775808)) = true then (a + b) % 18446744073709551616 - 18446744073709551616 else (a + b) % 18446744073709551616)
  simp only [Bool.true_and, decide_eq_true_eq]
  have : ((if a % 18446744073709551616 ≥ 9223372036854775808 then a % 18446744073709551616 - 18446744073709551616 else a % 18446744073709551616) + b) % 18446744073709551616 = (a + b) % 18446744073709551616 := by
    split <;> omega
  rw [this]
theorem wrap_add2 (a b : Int) : IntKind.i64.wrap (a + IntKind.i64.wrap b) = IntKind.i64.wrap (a + b) := by
  rw [Int.add_comm, wrap_add, Int.add_comm]
mutual
def T.sum (w : T → Int) : T → Int
  | .node f v ks => w (.node f v ks) + T.sums w ks
def T.sums (w : T → Int) : List T → Int
  | [] => 0
  | t :: r => T.sum w t + T.sums w r
end
def addW (w : T → Int) (x : T) (n : Int) : Int := IntKind.i64.wrap (n + w x)
mutual
theorem fold_sum (w : T → Int) : ∀ (t : T) (n : Int), T.fold (addW w) t (IntKind.i64.wrap n) = IntKind.i64.wrap (n + T.sum w t)
  | .node f v ks, n => by
    simp only [T.fold, T.sum, addW]
    rw [wrap_add, folds_sum w ks, Int.add_assoc]
theorem folds_sum (w : T → Int) : ∀ (l : List T) (n : Int), T.folds (addW w) l (IntKind.i64.wrap n) = IntKind.i64.wrap (n + T.sums w l)
  | [], n => by simp [T.folds, T.sums]
  | t :: r, n => by
    simp only [T.folds, T.sums]
    rw [fold_sum w t, folds_sum w r, Int.add_assoc]
end
/-- A loop that adds what is told of each Kid. -/
def stepA (c : T → Int) (l : List T) (n : Int) (i : Nat) : Int ⊕ Unit := .inl (IntKind.i64.wrap (n + c (tAt l i)))
theorem runA (w : T → Int) (l : List T) : ∀ (k i : Nat) (n : Int), i + k = l.length → runN (stepA (fun t => IntKind.i64.wrap (T.sum w t)) l) k (IntKind.i64.wrap n) i = .inl (IntKind.i64.wrap (n + T.sums w (l.drop i)))
  | 0, i, n, h => by
    have h1 : l.drop i = [] := List.drop_eq_nil_of_le (by omega)
    simp [runN, h1, T.sums]
  | k + 1, i, n, h => by
    have hlt : i < l.length := by omega
    rw [List.drop_eq_getElem_cons hlt, tAt_lt hlt]
    simp only [runN, stepA, T.sums]
    rw [wrap_add2, wrap_add, runA w l k (i + 1) _ (by omega), Int.add_assoc]
/-! Parts -/
end Go.Proofs.Ytcffalienbbohaa.VS
