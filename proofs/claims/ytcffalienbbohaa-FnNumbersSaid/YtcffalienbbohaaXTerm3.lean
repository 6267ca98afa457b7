/- Contracts of the program's functions on the evaluator without names, and plain lemmas: XTerm3. -/
import Derived.Test.YtcffalienbbohaaXTerm2
namespace Go.Proofs.Ytcffalienbbohaa.VS
set_option profiler true
set_option profiler.threshold 2000
set_option linter.unusedVariables false
set_option linter.unusedSimpArgs false
theorem T.inners_mem : ∀ {l : List T} {t : T}, t ∈ l → t.inner ≤ T.inners l
  | [], t, h => by simp at h
  | s :: r, t, h => by
    simp only [T.inners]
    rcases List.mem_cons.1 h with rfl | h
    · omega
    · have := T.inners_mem h; omega
/-! eqTerm, of a term with itself -/
/-! ### The order of terms -/
mutual
def T.cmp : T → T → Int
  | .node f v ks, .node f' v' ks' =>
    if f < f' then -1 else if f > f' then 1 else if v < v' then -1 else if v > v' then 1 else
    if ks.length < ks'.length then -1 else if ks.length > ks'.length then 1 else T.cmps ks ks'
def T.cmps : List T → List T → Int
  | a :: as, b :: bs => if T.cmp a b ≠ 0 then T.cmp a b else T.cmps as bs
  | _, _ => 0
end
def stepC (l m : List T) (_ : Unit) (i : Nat) : Unit ⊕ Int := if T.cmp (tAt l i) (tAt m i) ≠ 0 then .inr (T.cmp (tAt l i) (tAt m i)) else .inl ()
theorem runC (l m : List T) (hl : l.length = m.length) : ∀ (k i : Nat), i + k = l.length → runN (stepC l m) k () i = if T.cmps (l.drop i) (m.drop i) = 0 then .inl () else .inr (T.cmps (l.drop i) (m.drop i))
  | 0, i, h => by
    have h1 : l.drop i = [] := List.drop_eq_nil_of_le (by omega)
    simp [runN, h1, T.cmps]
  | k + 1, i, h => by
    have hlt : i < l.length := by omega
    have hlt' : i < m.length := by omega
    rw [List.drop_eq_getElem_cons hlt, List.drop_eq_getElem_cons hlt', tAt_lt hlt, tAt_lt hlt']
    simp only [runN, stepC, T.cmps]
    by_cases hc : T.cmp (tAt l i) (tAt m i) = 0
    · simp only [hc, ne_eq, not_true_eq_false, if_false]
      exact runC l m hl k (i + 1) (by omega)
    · simp [hc]
def pairAt (a b c d e f : Int) (i : Nat) : Int × Int := if i = 0 then (a, b) else if i = 1 then (c, d) else (e, f)
def stepP (a b c d e f : Int) (_ : Unit) (i : Nat) : Unit ⊕ (Int × (Int × Int)) := if (pairAt a b c d e f i).1 < (pairAt a b c d e f i).2 then .inr (-1, pairAt a b c d e f i) else if (pairAt a b c d e f i).1 > (pairAt a b c d e f i).2 then .inr (1, pairAt a b c d e f i) else .inl ()
def cmpB (f v : Int) (ks : List T) (f' v' : Int) (ks' : List T) : Boxs := [some [.d (.int .i64 f), .d (.int .i64 v), .d (terms .sub ks)], some [.d (.int .i64 f'), .d (.int .i64 v'), .d (terms .sub ks')]]
def cmpR (a b c d e f : Int) : List DV := [.agg [.int .i64 a, .int .i64 b], .agg [.int .i64 c, .int .i64 d], .agg [.int .i64 e, .int .i64 f]]
theorem cmpR_get (a b c d e f : Int) (i : Nat) (hi : i < 3) : (cmpR a b c d e f)[i]? = some (.agg [.int .i64 (pairAt a b c d e f i).1, .int .i64 (pairAt a b c d e f i).2]) := by
  match i, hi with
  | 0, _ => rfl
  | 1, _ => rfl
  | 2, _ => rfl
def cmpP (a b c d e f : Int) (r : Int) : Int := if a < b then -1 else if a > b then 1 else if c < d then -1 else if c > d then 1 else if e < f then -1 else if e > f then 1 else r
theorem runP (a b c d e f : Int) : (runN (stepP a b c d e f) 3 () 0 = .inl () ∧ a = b ∧ c = d ∧ e = f) ∨ ∃ r, runN (stepP a b c d e f) 3 () 0 = .inr r ∧ ∀ z, cmpP a b c d e f z = r.1 := by
  simp only [runN, stepP, pairAt, cmpP]
  by_cases c1 : a < b
  · right; refine ⟨_, by simp [c1]; rfl, fun z => ?_⟩; simp [c1]
  by_cases c2 : a > b
  · right; refine ⟨_, by simp [c1, c2]; rfl, fun z => ?_⟩; simp [c1, c2]
  by_cases c3 : c < d
  · right; refine ⟨_, by simp [c1, c2, c3]; rfl, fun z => ?_⟩; simp [c1, c2, c3]
  by_cases c4 : c > d
  · right; refine ⟨_, by simp [c1, c2, c3, c4]; rfl, fun z => ?_⟩; simp [c1, c2, c3, c4]
  by_cases c5 : e < f
  · right; refine ⟨_, by simp [c1, c2, c3, c4, c5]; rfl, fun z => ?_⟩; simp [c1, c2, c3, c4, c5]
  by_cases c6 : e > f
  · right; refine ⟨_, by simp [c1, c2, c3, c4, c5, c6]; rfl, fun z => ?_⟩; simp [c1, c2, c3, c4, c5, c6]
  left
  exact ⟨by simp [c1, c2, c3, c4, c5, c6], by omega, by omega, by omega⟩
theorem cmp_node (f v : Int) (ks : List T) (f' v' : Int) (ks' : List T) : T.cmp (.node f v ks) (.node f' v' ks') = cmpP f f' v v' ks.length ks'.length (T.cmps ks ks') := by
  simp only [T.cmp, cmpP, Int.ofNat_lt, gt_iff_lt]
end Go.Proofs.Ytcffalienbbohaa.VS
