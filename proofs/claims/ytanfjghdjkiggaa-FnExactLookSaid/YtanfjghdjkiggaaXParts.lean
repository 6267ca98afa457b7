/- Contracts of the program's functions on the evaluator without names, and plain lemmas: XParts. -/
import Derived.Test.YtanfjghdjkiggaaXEach
import Derived.Test.YtanfjghdjkiggaaXSame
namespace Go.Proofs.Ytanfjghdjkiggaa.VS
set_option linter.unusedVariables false
set_option linter.unusedSimpArgs false
theorem wrap_add (a b : Int) : IntKind.i64.wrap (IntKind.i64.wrap a + b) = IntKind.i64.wrap (a + b) := by
  show (if (true && decide (((if (true && decide (a % 18446744073709551616 ≥ 9223372036854775808)) = true then a % 18446744073709551616 - 18446744073709551616 else a % 18446744073709551616) + b) % 18446744073709551616 ≥ 9223372036854775808)) = true then ((if (true && decide (a % 18446744073709551616 ≥ 9223372036854775808)) = true then a % 18446744073709551616 - 18446744073709551616 else a % 18446744073709551616) + b) % 18446744073709551616 - 18446744073709551616 else ((if (true && decide (a % 18446744073709551616 ≥ 9223372036854775808)) = true then a % 18446744073709551616 - 18446744073709551616 else a % 18446744073709551616) + b) % 18446744073709551616) = (if (true && decide ((a + b) % 18446744073709551616 ≥ 9223372036854775808)) = true then (a + b) % 18446744073709551616 - 18446744073709551616 else (a + b) % 18446744073709551616)
  simp only [Bool.true_and, decide_eq_true_eq]
  have : ((if a % 18446744073709551616 ≥ 9223372036854775808 then a % 18446744073709551616 - 18446744073709551616 else a % 18446744073709551616) + b) % 18446744073709551616 = (a + b) % 18446744073709551616 := by
    split <;> omega
  rw [this]
theorem wrap_add2 (a b : Int) : IntKind.i64.wrap (a + IntKind.i64.wrap b) = IntKind.i64.wrap (a + b) := by
  rw [Int.add_comm, wrap_add, Int.add_comm]
mutual
def T.sum (w : T → Int) : T → Int
  | .node f v ks => w (.node f v ks) + T.sums w ks
def T.sums (w : T → Int) : List T → Int
  | [] => 0
  | t :: r => T.sum w t + T.sums w r
end
def addW (w : T → Int) (x : T) (n : Int) : Int := IntKind.i64.wrap (n + w x)
mutual
theorem fold_sum (w : T → Int) : ∀ (t : T) (n : Int), T.fold (addW w) t (IntKind.i64.wrap n) = IntKind.i64.wrap (n + T.sum w t)
  | .node f v ks, n => by
    simp only [T.fold, T.sum, addW]
    rw [wrap_add, folds_sum w ks, Int.add_assoc]
theorem folds_sum (w : T → Int) : ∀ (l : List T) (n : Int), T.folds (addW w) l (IntKind.i64.wrap n) = IntKind.i64.wrap (n + T.sums w l)
  | [], n => by simp [T.folds, T.sums]
  | t :: r, n => by
    simp only [T.folds, T.sums]
    rw [fold_sum w t, folds_sum w r, Int.add_assoc]
end
/-- A loop that adds what is told of each Kid. -/
def stepA (c : T → Int) (l : List T) (n : Int) (i : Nat) : Int ⊕ Unit := .inl (IntKind.i64.wrap (n + c (tAt l i)))
theorem runA (w : T → Int) (l : List T) : ∀ (k i : Nat) (n : Int), i + k = l.length → runN (stepA (fun t => IntKind.i64.wrap (T.sum w t)) l) k (IntKind.i64.wrap n) i = .inl (IntKind.i64.wrap (n + T.sums w (l.drop i)))
  | 0, i, n, h => by
    have h1 : l.drop i = [] := List.drop_eq_nil_of_le (by omega)
    simp [runN, h1, T.sums]
  | k + 1, i, n, h => by
    have hlt : i < l.length := by omega
    rw [List.drop_eq_getElem_cons hlt, tAt_lt hlt]
    simp only [runN, stepA, T.sums]
    rw [wrap_add2, wrap_add, runA w l k (i + 1) _ (by omega), Int.add_assoc]
/-! Parts -/
theorem implParts_eq (t : T) (ht : t.inner ≤ 1048576) : callX XV 23 [.d (t.enc .sub)] [] = some (.d (.int .i64 (IntKind.i64.wrap (T.sum (fun _ => 1) t))), []) := by
  rw [z_call XV _ _ _ v23 rfl xcode_23 rfl]
  -- the counter is the second box: a function of the counter with the argument's box ahead of it
  have key : ∀ (n : Int), callX XV 25 [.d (t.enc .sub), .fn 24 [.ptr 1 0]] ([some [.d (.int .i64 t.f), .d (.int .i64 t.v), .d (terms .sub t.kids)], some [.d (.int .i64 n)]] ++ []) = some (.d (.tup []), [some [.d (.int .i64 t.f), .d (.int .i64 t.v), .d (terms .sub t.kids)], some [.d (.int .i64 (T.fold (addW fun _ => 1) t n))]] ++ []) := fun n =>
    each_eq (fun n : Int => [some [.d (.int .i64 t.f), .d (.int .i64 t.v), .d (terms .sub t.kids)], some [.d (.int .i64 n)]]) (addW fun _ => 1) 24 [.ptr 1 0] 2 (fun _ => rfl) (fun n hn => by simp; omega) rfl (by simp) (fun x s r => by
      rw [z_call XV _ _ _ v24 rfl xcode_24 rfl]
      simp [v24, r24_0, r24_1, splice, addW]) t ht n []
  have k0 := key 0
  have h0 := fold_sum (fun _ => 1) t 0
  rw [show IntKind.i64.wrap 0 = 0 from rfl, Int.zero_add] at h0
  rw [h0] at k0
  simp only [List.append_nil, terms] at k0
  simp [v23, r23_0, r23_1, r23_2, r23_3, splice, k0]
theorem specParts_of (f v : Int) (ks : List T) (hl : ks.length ≤ 1048576) (hrec : ∀ s, s ∈ ks → callX XV 22 [.d (s.enc .sub)] [] = some (.d (.int .i64 (IntKind.i64.wrap (T.sum (fun _ => 1) s))), [])) :
    callX XV 22 [.d ((T.node f v ks).enc .sub)] [] = some (.d (.int .i64 (IntKind.i64.wrap (T.sum (fun _ => 1) (.node f v ks)))), []) := by
  rw [z_call XV _ _ _ v22 rfl xcode_22 rfl]
  have h := loopX_upto (X := XV) (T := []) (L := 1) (live := [1, 3, 4]) (b := b22_0) (n := ks.length) (γ := Unit) (st := fun (n : Int) i => ⟨[(1, .ptr 0 0), (3, .d (.int .i64 n)), (4, .d (.int .i64 i))], [some [.d (.int .i64 f), .d (.int .i64 v), .d (terms .sub ks)]]⟩) (step := stepA (fun t => IntKind.i64.wrap (T.sum (fun _ => 1) t)) ks)
    (F := fun n => (.exit 0, ⟨[(1, .ptr 0 0), (3, .d (.int .i64 n)), (4, .d (.int .i64 ks.length)), (9, .d (.bool false))], [some [.d (.int .i64 f), .d (.int .i64 v), .d (terms .sub ks)]]⟩)) (R := fun r => (.ret, ⟨[], []⟩))
    (fun _ => ⟨by simp, by simp [b22_0, r22_3]⟩)
    (fun n i hi => by
      have hw := wrap_succ (n := i) (by omega)
      have hc := hrec _ (tAt_mem hi)
      exact ⟨_, by simp [b22_0, r22_3, r22_4, r22_5, hi, hw, cut, tAt_lt hi, hc]; rfl, by simp [xheadOf, safeRegs]⟩)
    ks.length (IntKind.i64.wrap 1) 0 ⟨[(1, .ptr 0 0), (3, .d (.int .i64 1)), (4, .d (.int .i64 0))], [some [.d (.int .i64 f), .d (.int .i64 v), .d (terms .sub ks)]]⟩ (by omega) (by simp [xheadOf, safeRegs, show IntKind.i64.wrap 1 = 1 from rfl])
  rw [runA _ _ _ _ _ (by omega)] at h
  simp only [List.drop_zero, terms] at h
  have hs : T.sum (fun _ => 1) (T.node f v ks) = 1 + T.sums (fun _ => 1) ks := by simp [T.sum]
  simp [v22, r22_0, r22_1, r22_2, hs]
  rw [h]
  simp [r22_6]
theorem specParts_eq (t : T) (ht : t.inner ≤ 1048576) : callX XV 22 [.d (t.enc .sub)] [] = some (.d (.int .i64 (IntKind.i64.wrap (T.sum (fun _ => 1) t))), []) := by
  match t, ht with
  | .node f v ks, ht =>
    simp only [T.inner] at ht
    exact specParts_of f v ks (by omega) (fun s hs => specParts_eq s (by have := T.inners_mem hs; omega))
termination_by t
decreasing_by
  simp_wf
  have := List.sizeOf_lt_of_mem hs
  omega
end Go.Proofs.Ytanfjghdjkiggaa.VS
