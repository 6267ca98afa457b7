/- Contracts of the program's functions on the evaluator without names, and plain lemmas: XTerm3. -/
import Derived.Test.YtanfjghdjkiggaaXTerm2
namespace Go.Proofs.Ytanfjghdjkiggaa.VS
set_option profiler true
set_option profiler.threshold 2000
set_option linter.unusedVariables false
set_option linter.unusedSimpArgs false
theorem T.inners_mem : ∀ {l : List T} {t : T}, t ∈ l → t.inner ≤ T.inners l
  | [], t, h => by simp at h
  | s :: r, t, h => by
    simp only [T.inners]
    rcases List.mem_cons.1 h with rfl | h
    · omega
    · have := T.inners_mem h; omega
theorem toTerm_eq (t : T) (hi : t.inner ≤ 1048576) : callX XV 2 [.d (t.enc .sub)] [] = some (.d (t.enc U), []) := by
  match t, hi with
  | .node f v ks, hi =>
    simp only [T.inner] at hi
    have hc := toTermS_of ks (by omega) (fun s hs => toTerm_eq s (by have := T.inners_mem hs; omega))
    rw [z_call XV _ _ _ v2 rfl xcode_2 rfl]
    simp [v2, r2_0, r2_1, r2_2, r2_3, r2_4, r2_5, hc, splice, loadBox, AV.clrs_map, isCell_int, isCell_sl, isCellA_d, safe_d]
termination_by t
decreasing_by
  simp_wf
  have := List.sizeOf_lt_of_mem hs
  omega

/-! eqTerm, of a term with itself -/
theorem eqTermS_of (l : List T) (hl : l.length ≤ 1048576) (hc : ∀ t, t ∈ l → callX XV 5 [.d (t.enc .sub), .d (t.enc .sub)] [] = some (.d (.bool true), [])) :
    callX XV 7 [.d (terms .sub l), .d (terms .sub l)] [] = some (.d (.bool true), []) := by
  rw [z_call XV _ _ _ v7 rfl xcode_7 rfl]
  have hloop := loopX_upto (X := XV) (T := []) (L := 0) (live := [0, 1, 5]) (b := b7_0) (n := l.length) (γ := Unit) (st := fun (_ : Unit) i => ⟨[(0, .d (terms .sub l)), (1, .d (terms .sub l)), (5, .d (.int .i64 i))], []⟩) (step := fun _ _ => .inl ())
    (F := fun _ => (.exit 0, ⟨[(0, .d (terms .sub l)), (1, .d (terms .sub l)), (5, .d (.int .i64 l.length)), (14, .d (.bool false))], []⟩)) (R := fun _ => (.ret, ⟨[], []⟩))
    (fun _ => ⟨by simp, by simp [b7_0, r7_4]⟩)
    (fun _ i hi => by
      have hw := wrap_succ (n := i) (by omega)
      have hc' := hc _ (tAt_mem hi)
      refine ⟨_, by simp [b7_0, r7_4, r7_5, d7_6, r7_7, hi, hw, cut, tAt_lt hi, hc']; rfl, by simp [xheadOf, safeRegs]⟩)
    l.length () 0 ⟨[(0, .d (terms .sub l)), (1, .d (terms .sub l)), (5, .d (.int .i64 0))], []⟩ (by omega) (by simp [xheadOf, safeRegs])
  have hrun : ∀ k i, runN (fun (_ : Unit) (_ : Nat) => (Sum.inl () : Unit ⊕ Unit)) k () i = .inl () := by
    intro k; induction k with
    | zero => intro i; rfl
    | succ k ih => intro i; simp [runN, ih]
  rw [hrun] at hloop
  simp [v7, r7_0, r7_1, r7_2, r7_3, r7_8]
  rw [hloop]
  simp [r7_8]
theorem eqTerm_self (t : T) (hi : t.inner ≤ 1048576) : callX XV 5 [.d (t.enc .sub), .d (t.enc .sub)] [] = some (.d (.bool true), []) := by
  match t, hi with
  | .node f v ks, hi =>
    simp only [T.inner] at hi
    have hc := eqTermS_of ks (by omega) (fun s hs => eqTerm_self s (by have := T.inners_mem hs; omega))
    rw [z_call XV _ _ _ v5 rfl xcode_5 rfl]
    simp [v5, r5_0, r5_1, r5_2, r5_3, r5_4, r5_5, r5_6, r5_7, hc]
termination_by t
decreasing_by
  simp_wf
  have := List.sizeOf_lt_of_mem hs
  omega

/-! ### The order of terms -/
mutual
def T.cmp : T → T → Int
  | .node f v ks, .node f' v' ks' =>
    if f < f' then -1 else if f > f' then 1 else if v < v' then -1 else if v > v' then 1 else
    if ks.length < ks'.length then -1 else if ks.length > ks'.length then 1 else T.cmps ks ks'
def T.cmps : List T → List T → Int
  | a :: as, b :: bs => if T.cmp a b ≠ 0 then T.cmp a b else T.cmps as bs
  | _, _ => 0
end
def stepC (l m : List T) (_ : Unit) (i : Nat) : Unit ⊕ Int := if T.cmp (tAt l i) (tAt m i) ≠ 0 then .inr (T.cmp (tAt l i) (tAt m i)) else .inl ()
theorem runC (l m : List T) (hl : l.length = m.length) : ∀ (k i : Nat), i + k = l.length → runN (stepC l m) k () i = if T.cmps (l.drop i) (m.drop i) = 0 then .inl () else .inr (T.cmps (l.drop i) (m.drop i))
  | 0, i, h => by
    have h1 : l.drop i = [] := List.drop_eq_nil_of_le (by omega)
    simp [runN, h1, T.cmps]
  | k + 1, i, h => by
    have hlt : i < l.length := by omega
    have hlt' : i < m.length := by omega
    rw [List.drop_eq_getElem_cons hlt, List.drop_eq_getElem_cons hlt', tAt_lt hlt, tAt_lt hlt']
    simp only [runN, stepC, T.cmps]
    by_cases hc : T.cmp (tAt l i) (tAt m i) = 0
    · simp only [hc, ne_eq, not_true_eq_false, if_false]
      exact runC l m hl k (i + 1) (by omega)
    · simp [hc]
def pairAt (a b c d e f : Int) (i : Nat) : Int × Int := if i = 0 then (a, b) else if i = 1 then (c, d) else (e, f)
def stepP (a b c d e f : Int) (_ : Unit) (i : Nat) : Unit ⊕ (Int × (Int × Int)) := if (pairAt a b c d e f i).1 < (pairAt a b c d e f i).2 then .inr (-1, pairAt a b c d e f i) else if (pairAt a b c d e f i).1 > (pairAt a b c d e f i).2 then .inr (1, pairAt a b c d e f i) else .inl ()
def cmpB (f v : Int) (ks : List T) (f' v' : Int) (ks' : List T) : Boxs := [some [.d (.int .i64 f), .d (.int .i64 v), .d (terms .sub ks)], some [.d (.int .i64 f'), .d (.int .i64 v'), .d (terms .sub ks')]]
def cmpR (a b c d e f : Int) : List DV := [.agg [.int .i64 a, .int .i64 b], .agg [.int .i64 c, .int .i64 d], .agg [.int .i64 e, .int .i64 f]]
theorem cmpR_get (a b c d e f : Int) (i : Nat) (hi : i < 3) : (cmpR a b c d e f)[i]? = some (.agg [.int .i64 (pairAt a b c d e f i).1, .int .i64 (pairAt a b c d e f i).2]) := by
  match i, hi with
  | 0, _ => rfl
  | 1, _ => rfl
  | 2, _ => rfl
theorem compare_l1 (a b c d e f : Int) (B : Boxs) (hB : B.length = 2) :
    loopX XV [] 2 [2, 3, 26, 27, 28] b6_0 ⟨[(2, .ptr 0 0), (3, .ptr 1 0), (26, .d (.sl .sub (cmpR a b c d e f))), (27, .d (.int .i64 3)), (28, .d (.int .i64 0))], B⟩ =
      some (match runN (stepP a b c d e f) 3 () 0 with
        | .inl _ => (.exit 0, ⟨[(2, .ptr 0 0), (3, .ptr 1 0), (26, .d (.sl .sub (cmpR a b c d e f))), (27, .d (.int .i64 3)), (28, .d (.int .i64 3)), (29, .d (.bool false))], B⟩)
        | .inr r => (.ret, ⟨[(4, .d (.int .i64 r.1))], B ++ [some [.d (.int .i64 r.2.1), .d (.int .i64 r.2.2)]]⟩)) := by
  obtain ⟨x0, x1, rfl⟩ : ∃ x0 x1, B = [x0, x1] := by
    match B, hB with
    | [x0, x1], _ => exact ⟨x0, x1, rfl⟩
  have key := loopX_upto (X := XV) (T := []) (L := 2) (live := [2, 3, 26, 27, 28]) (b := b6_0) (n := 3) (γ := Int × (Int × Int)) (st := fun (_ : Unit) i => ⟨[(2, .ptr 0 0), (3, .ptr 1 0), (26, .d (.sl .sub (cmpR a b c d e f))), (27, .d (.int .i64 3)), (28, .d (.int .i64 i))], [x0, x1]⟩) (step := stepP a b c d e f)
    (F := fun _ => (.exit 0, ⟨[(2, .ptr 0 0), (3, .ptr 1 0), (26, .d (.sl .sub (cmpR a b c d e f))), (27, .d (.int .i64 3)), (28, .d (.int .i64 3)), (29, .d (.bool false))], [x0, x1]⟩)) (R := fun r => (.ret, ⟨[(4, .d (.int .i64 r.1))], [x0, x1] ++ [some [.d (.int .i64 r.2.1), .d (.int .i64 r.2.2)]]⟩))
    (fun _ => ⟨by simp, by simp [b6_0, r6_2]⟩)
    (fun _ i hi => by
      have hw := wrap_succ (n := i) (by omega)
      have hi' : (i : Int) < 3 := by omega
      have hb := cmpR_get a b c d e f i hi
      unfold stepP
      generalize pairAt a b c d e f i = q at hb
      obtain ⟨x, y⟩ := q
      simp only at hb ⊢
      by_cases h1 : x < y
      · rw [if_pos h1]
        refine ⟨by simp, ?_⟩
        simp [b6_0, r6_2, r6_3, r6_4, r6_5, hi', hb, cut, h1, isCell_int, splice, loadBox, isCellA_d, safe_d]
      · rw [if_neg h1]
        by_cases h2 : x > y
        · rw [if_pos h2]
          refine ⟨by simp, ?_⟩
          simp [b6_0, r6_2, r6_3, r6_4, r6_5, r6_6, r6_7, hi', hb, cut, h1, h2, isCell_int, splice, loadBox, isCellA_d, safe_d]
        · rw [if_neg h2]
          refine ⟨_, by simp [b6_0, r6_2, r6_3, r6_4, r6_5, r6_6, r6_7, r6_8, hi', hb, cut, h1, h2, hw, isCell_int, splice, loadBox, isCellA_d, safe_d]; rfl, ?_⟩
          simp [xheadOf, safeRegs])
    3 () 0 ⟨[(2, .ptr 0 0), (3, .ptr 1 0), (26, .d (.sl .sub (cmpR a b c d e f))), (27, .d (.int .i64 3)), (28, .d (.int .i64 0))], [x0, x1]⟩ (by omega) (by simp [xheadOf, safeRegs])
  rw [key]
  cases runN (stepP a b c d e f) 3 () 0 <;> rfl
theorem compare_l2 (f v : Int) (ks : List T) (f' v' : Int) (ks' : List T) (hl : ks.length ≤ 1048576) (hlen : ks.length = ks'.length)
    (hrec : ∀ s s', s ∈ ks → s' ∈ ks' → callX XV 6 [.d (s.enc .sub), .d (s'.enc .sub)] [] = some (.d (.int .i64 (T.cmp s s')), [])) :
    loopX XV [] 2 [2, 3, 47, 48] b6_1 ⟨[(2, .ptr 0 0), (3, .ptr 1 0), (47, .d (.int .i64 ks.length)), (48, .d (.int .i64 0))], cmpB f v ks f' v' ks'⟩ =
      some (if T.cmps ks ks' = 0 then (.exit 3, ⟨[(2, .ptr 0 0), (3, .ptr 1 0), (47, .d (.int .i64 ks.length)), (48, .d (.int .i64 ks.length)), (49, .d (.bool false))], cmpB f v ks f' v' ks'⟩) else (.ret, ⟨[(4, .d (.int .i64 (T.cmps ks ks')))], cmpB f v ks f' v' ks'⟩)) := by
  have h := loopX_upto (X := XV) (T := []) (L := 2) (live := [2, 3, 47, 48]) (b := b6_1) (n := ks.length) (γ := Int) (st := fun (_ : Unit) i => ⟨[(2, .ptr 0 0), (3, .ptr 1 0), (47, .d (.int .i64 ks.length)), (48, .d (.int .i64 i))], cmpB f v ks f' v' ks'⟩) (step := stepC ks ks')
    (F := fun _ => (.exit 3, ⟨[(2, .ptr 0 0), (3, .ptr 1 0), (47, .d (.int .i64 ks.length)), (48, .d (.int .i64 ks.length)), (49, .d (.bool false))], cmpB f v ks f' v' ks'⟩)) (R := fun r => (.ret, ⟨[(4, .d (.int .i64 r))], cmpB f v ks f' v' ks'⟩))
    (fun _ => ⟨by simp, by simp [b6_1, r6_10]⟩)
    (fun _ i hi => by
      have hw := wrap_succ (n := i) (by omega)
      have hi2 : i < ks'.length := by omega
      have hc := hrec _ _ (tAt_mem hi) (tAt_mem hi2)
      unfold stepC cmpB
      by_cases h0 : T.cmp (tAt ks i) (tAt ks' i) = 0
      · rw [h0] at hc ⊢
        simp only [ne_eq, not_true_eq_false, if_false]
        refine ⟨_, by simp [b6_1, r6_10, r6_11, d6_12, r6_13, r6_14, r6_15, hi, hi2, hw, cut, tAt_lt hi, tAt_lt hi2, hc, loadBox]; rfl, ?_⟩
        simp [xheadOf, safeRegs]
      · simp only [ne_eq, h0, not_false_eq_true, if_true]
        have h0' : (T.cmp (tAt ks i) (tAt ks' i) != 0) = true := by simp [h0]
        refine ⟨by simp, ?_⟩
        simp [b6_1, r6_10, r6_11, d6_12, r6_13, r6_14, r6_15, hi, hi2, hw, cut, tAt_lt hi, tAt_lt hi2, hc, loadBox, h0'])
    ks.length () 0 ⟨[(2, .ptr 0 0), (3, .ptr 1 0), (47, .d (.int .i64 ks.length)), (48, .d (.int .i64 0))], cmpB f v ks f' v' ks'⟩ (by omega) (by simp [xheadOf, safeRegs, cmpB])
  rw [runC ks ks' hlen _ _ (by omega)] at h
  simp only [List.drop_zero] at h
  rw [h]
  by_cases h0 : T.cmps ks ks' = 0 <;> simp [h0]
def cmpP (a b c d e f : Int) (r : Int) : Int := if a < b then -1 else if a > b then 1 else if c < d then -1 else if c > d then 1 else if e < f then -1 else if e > f then 1 else r
theorem runP (a b c d e f : Int) : (runN (stepP a b c d e f) 3 () 0 = .inl () ∧ a = b ∧ c = d ∧ e = f) ∨ ∃ r, runN (stepP a b c d e f) 3 () 0 = .inr r ∧ ∀ z, cmpP a b c d e f z = r.1 := by
  simp only [runN, stepP, pairAt, cmpP]
  by_cases c1 : a < b
  · right; refine ⟨_, by simp [c1]; rfl, fun z => ?_⟩; simp [c1]
  by_cases c2 : a > b
  · right; refine ⟨_, by simp [c1, c2]; rfl, fun z => ?_⟩; simp [c1, c2]
  by_cases c3 : c < d
  · right; refine ⟨_, by simp [c1, c2, c3]; rfl, fun z => ?_⟩; simp [c1, c2, c3]
  by_cases c4 : c > d
  · right; refine ⟨_, by simp [c1, c2, c3, c4]; rfl, fun z => ?_⟩; simp [c1, c2, c3, c4]
  by_cases c5 : e < f
  · right; refine ⟨_, by simp [c1, c2, c3, c4, c5]; rfl, fun z => ?_⟩; simp [c1, c2, c3, c4, c5]
  by_cases c6 : e > f
  · right; refine ⟨_, by simp [c1, c2, c3, c4, c5, c6]; rfl, fun z => ?_⟩; simp [c1, c2, c3, c4, c5, c6]
  left
  exact ⟨by simp [c1, c2, c3, c4, c5, c6], by omega, by omega, by omega⟩
theorem cmp_node (f v : Int) (ks : List T) (f' v' : Int) (ks' : List T) : T.cmp (.node f v ks) (.node f' v' ks') = cmpP f f' v v' ks.length ks'.length (T.cmps ks ks') := by
  simp only [T.cmp, cmpP, Int.ofNat_lt, gt_iff_lt]
theorem compare_of (f v : Int) (ks : List T) (f' v' : Int) (ks' : List T) (hl : ks.length ≤ 1048576) (hl' : ks'.length ≤ 1048576)
    (hrec : ∀ s s', s ∈ ks → s' ∈ ks' → callX XV 6 [.d (s.enc .sub), .d (s'.enc .sub)] [] = some (.d (.int .i64 (T.cmp s s')), [])) :
    callX XV 6 [.d ((T.node f v ks).enc .sub), .d ((T.node f' v' ks').enc .sub)] [] = some (.d (.int .i64 (T.cmp (.node f v ks) (.node f' v' ks'))), []) := by
  rw [z_call XV _ _ _ v6 rfl xcode_6 rfl]
  have h1 := compare_l1 f f' v v' ks.length ks'.length (cmpB f v ks f' v' ks') rfl
  simp [v6, r6_0, r6_1, isCell_int, isCell_sl, isCellA_d, safe_d, splice, loadBox, buildRow, List.replicate]
  simp only [cmpR, cmpB] at h1
  rw [h1, cmp_node]
  rcases runP f f' v v' ks.length ks'.length with ⟨h3, e1, e2, e3⟩ | ⟨r, h3, h4⟩
  · rw [h3]
    have hlen : ks.length = ks'.length := by omega
    have h2 := compare_l2 f v ks f' v' ks' hl hlen hrec
    simp only [cmpB] at h2
    subst e1; subst e2
    simp [r6_9, loadBox]
    rw [h2]
    have h5 : cmpP f f v v ks.length ks'.length (T.cmps ks ks') = T.cmps ks ks' := by simp [cmpP, hlen]
    rw [h5]
    by_cases c7 : T.cmps ks ks' = 0
    · simp [c7, r6_16]
    · simp [c7]
  · rw [h3, h4]; simp
theorem compare_eq (a b : T) (ha : a.inner ≤ 1048576) (hb : b.inner ≤ 1048576) : callX XV 6 [.d (a.enc .sub), .d (b.enc .sub)] [] = some (.d (.int .i64 (T.cmp a b)), []) := by
  match a, b, ha, hb with
  | .node f v ks, .node f' v' ks', ha, hb =>
    simp only [T.inner] at ha hb
    exact compare_of f v ks f' v' ks' (by omega) (by omega) (fun s s' hs hs' => compare_eq s s' (by have := T.inners_mem hs; omega) (by have := T.inners_mem hs'; omega))
termination_by a
decreasing_by
  simp_wf
  have := List.sizeOf_lt_of_mem hs
  omega
end Go.Proofs.Ytanfjghdjkiggaa.VS
