/- Contracts of the program's functions on the evaluator without names, and plain lemmas: part 2. -/
import Derived.Test.YtficfeekkljoeaaXP1
namespace Go.Proofs.Ytficfeekkljoeaa.VS
set_option linter.unusedVariables false
set_option linter.unusedSimpArgs false
/-! ## The program's Basis -/
theorem fine_len {l : List Int} (h : fineB l = true) : 1 ≤ l.length ∧ l.length ≤ 5 := by
  unfold fineB inB at h
  simp at h
  omega
theorem fine_at {l : List Int} (h : fineB l = true) (i : Nat) (hi : i < l.length) : 1 ≤ iAt l i ∧ iAt l i ≤ 4 := by
  unfold fineB at h
  simp only [Bool.and_eq_true, Option.isNone_iff_eq_none] at h
  have := findAt_none _ _ _ i h.1 (Nat.zero_le _) (by omega)
  unfold offAt inB at this
  simp at this
  omega
theorem mxF_in (l : List Int) (lo hi : Int) : ∀ (k i : Nat) (m : Int), i + k ≤ l.length → (∀ j, j < l.length → lo ≤ iAt l j ∧ iAt l j ≤ hi) → lo ≤ m → m ≤ hi → lo ≤ mxF l i k m ∧ mxF l i k m ≤ hi
  | 0, i, m, _, _, h1, h2 => ⟨h1, h2⟩
  | k + 1, i, m, hk, h, h1, h2 => by
    simp only [mxF]
    have := h i (by omega)
    split
    · exact mxF_in l lo hi k (i + 1) _ (by omega) h this.1 this.2
    · exact mxF_in l lo hi k (i + 1) _ (by omega) h h1 h2
theorem maxL_fine {l : List Int} (h : fineB l = true) : 1 ≤ maxL l ∧ maxL l ≤ 4 := by
  have h1 := fine_len h
  have h0 := fine_at h 0 (by omega)
  exact mxF_in l 1 4 _ _ _ (by omega) (fun j hj => fine_at h j hj) h0.1 h0.2
theorem topL_max {l : List Int} (h : fineB l = true) : topL l = maxL l := by
  have h1 := fine_len h
  have h0 := fine_at h 0 (by omega)
  unfold topL maxL
  obtain ⟨k, hk⟩ : ∃ k, l.length = k + 1 := ⟨l.length - 1, by omega⟩
  rw [hk]
  simp only [mxF, Nat.zero_add, Nat.add_sub_cancel]
  rw [if_pos (by omega)]
def leftW (a b : List Int) : List (List Int) := ways a.length (maxL b).toNat
def rightW (a b : List Int) : List (List Int) := ways b.length (maxL a).toNat
def allTo (a b : List Int) (k : Nat) : List (List Int) := ((leftW a b).take k).flatMap fun x => sideTo a b x (rightW a b) (rightW a b).length
def allL (a b : List Int) : List (List Int) := allTo a b (leftW a b).length
theorem allTo_succ (a b : List Int) (k : Nat) (hk : k < (leftW a b).length) : allTo a b (k + 1) = allTo a b k ++ sideTo a b (rAt (leftW a b) k) (rightW a b) (rightW a b).length := by
  unfold allTo
  rw [List.take_add_one, List.flatMap_append, List.getElem?_eq_getElem hk, rAt_lt hk]
  simp
theorem allTo_len (a b : List Int) (hR : (rightW a b).length ≤ 126) : ∀ k, k ≤ (leftW a b).length → (allTo a b k).length ≤ 126 * k
  | 0, _ => by simp [allTo]
  | k + 1, h => by
    rw [allTo_succ a b k (by omega), List.length_append]
    have := allTo_len a b hR k (by omega)
    have := sideTo_len a b (rAt (leftW a b) k) (rightW a b) (rightW a b).length
    omega
theorem side_row {m : Nat} (a b x : List Int) (right : List (List Int)) (k : Nat) (n : Nat) (hx : x.length + n = m) (h : ∀ r, r ∈ right → r.length = n) : ∀ z, z ∈ sideTo a b x right k → z.length = m := by
  intro z hz
  unfold sideTo at hz
  obtain ⟨y, hy, rfl⟩ := List.mem_map.1 (List.mem_filter.1 hz).1
  rw [List.length_append, h y (List.mem_of_mem_take hy)]; exact hx
theorem all_row (a b : List Int) (k : Nat) : ∀ z, z ∈ allTo a b k → z.length = a.length + b.length := by
  intro z hz
  unfold allTo at hz
  obtain ⟨x, hx, hz⟩ := List.mem_flatMap.1 hz
  have := ways_row _ _ x (List.mem_of_mem_take hx)
  exact side_row a b x _ _ b.length (by omega) (fun r hr => ways_row _ _ r hr) z hz
theorem rAt_mem {l : List (List Int)} {i : Nat} (h : i < l.length) : rAt l i ∈ l := by rw [← rAt_lt h]; exact List.getElem_mem h
def stepAl (a b : List Int) (acc : List (List Int)) (k : Nat) : List (List Int) ⊕ Unit := .inl (acc ++ sideTo a b (rAt (leftW a b) k) (rightW a b) (rightW a b).length)
theorem runAl (a b : List Int) : ∀ (j k : Nat), k + j ≤ (leftW a b).length → runN (stepAl a b) j (allTo a b k) k = .inl (allTo a b (k + j))
  | 0, k, _ => rfl
  | j + 1, k, h => by
    simp only [runN, stepAl]
    rw [← allTo_succ a b k (by omega), runAl a b j (k + 1) (by omega)]
    congr 2; omega
theorem implAll_eq (a b : List Int) (ha : fineB a = true) (hb : fineB b = true) :
    loopX XV (XV.lin 207) 0 [0, 1, 6, 7, 34, 35, 36] b207_0 ⟨[(0, .d (is a)), (1, .d (is b)), (6, .d (iss U [])), (7, .d (iss .sub (rightW a b))), (34, .d (iss .sub (leftW a b))), (35, .d (.int .i64 (leftW a b).length)), (36, .d (.int .i64 0))], []⟩ =
      some (.exit 0, ⟨[(0, .d (is a)), (1, .d (is b)), (6, .d (iss U (allL a b))), (7, .d (iss .sub (rightW a b))), (34, .d (iss .sub (leftW a b))), (35, .d (.int .i64 (leftW a b).length)), (36, .d (.int .i64 (leftW a b).length)), (37, .d (.bool false))], []⟩) := by
  have la := fine_len ha
  have lb := fine_len hb
  have ma := maxL_fine ha
  have mb := maxL_fine hb
  have hR : (rightW a b).length ≤ 126 := ways_len _ _ (by omega) (by omega)
  have hL : (leftW a b).length ≤ 126 := ways_len _ _ (by omega) (by omega)
  have hRr : ∀ i, i < (rightW a b).length → (rAt (rightW a b) i).length = b.length := fun i hi => ways_row _ _ _ (rAt_mem hi)
  have hLr : ∀ i, i < (leftW a b).length → (rAt (leftW a b) i).length = a.length := fun i hi => ways_row _ _ _ (rAt_mem hi)
  have h := loopX_inv (X := XV) (T := XV.lin 207) (L := 0) (live := [0, 1, 6, 7, 34, 35, 36]) (b := b207_0) (n := (leftW a b).length) (γ := Unit) (st := fun (A : List (List Int)) j => ⟨[(0, .d (is a)), (1, .d (is b)), (6, .d (iss U A)), (7, .d (iss .sub (rightW a b))), (34, .d (iss .sub (leftW a b))), (35, .d (.int .i64 (leftW a b).length)), (36, .d (.int .i64 j))], []⟩) (step := stepAl a b)
    (F := fun A => (.exit 0, ⟨[(0, .d (is a)), (1, .d (is b)), (6, .d (iss U A)), (7, .d (iss .sub (rightW a b))), (34, .d (iss .sub (leftW a b))), (35, .d (.int .i64 (leftW a b).length)), (36, .d (.int .i64 (leftW a b).length)), (37, .d (.bool false))], []⟩)) (R := fun _ => (.ret, ⟨[], []⟩))
    (fun A j => A = allTo a b j)
    (fun A _ => ⟨by simp, by simp [b207_0, r207_0, r207_1, r207_2, r207_3, r207_4, r207_5, r207_6, r207_7, r207_8, r207_9, r207_10, r207_11, r207_12, r207_13, r207_14, r207_15, r207_16, r207_17, r207_18, r207_19, r207_20, r207_21, r207_22, r207_23, r207_24, r207_25]⟩)
    (fun A j hj hinv => by
      subst hinv
      have hw := wrap_succ (n := j) (by omega)
      have hA := allTo_len a b hR j (by omega)
      have hI := implSide_eq a b (rAt (leftW a b) j) (rightW a b) (allTo a b j) (.d (iss .sub (leftW a b))) rfl (leftW a b).length j (by omega) (by omega) (hLr j hj) (by rw [hLr j hj]; omega) (by omega) (by omega) hRr (by omega)
      simp only [lin_207] at hI
      generalize hq : allTo a b j ++ sideTo a b (rAt (leftW a b) j) (rightW a b) (rightW a b).length = q at hI
      generalize hg : rAt (leftW a b) j = x at *
      have hgx : (leftW a b)[j] = x := by rw [rAt_lt hj, hg]
      unfold stepAl
      rw [hg, hq]
      refine ⟨⟨_, by simp [b207_0, r207_0, r207_1, r207_2, r207_3, r207_4, r207_5, r207_6, r207_7, r207_8, r207_9, r207_10, r207_11, r207_12, r207_13, r207_14, r207_15, r207_16, r207_17, r207_18, r207_19, r207_20, r207_21, r207_22, r207_23, r207_24, r207_25, hj, hw, cut, hgx, hI]; rfl, by simp [xheadOf, safeRegs]⟩, fun a' h => by simp at h; subst h; rw [allTo_succ a b j hj, hg, hq]⟩)
    (leftW a b).length (allTo a b 0) 0 ⟨[(0, .d (is a)), (1, .d (is b)), (6, .d (iss U (allTo a b 0))), (7, .d (iss .sub (rightW a b))), (34, .d (iss .sub (leftW a b))), (35, .d (.int .i64 (leftW a b).length)), (36, .d (.int .i64 0))], []⟩ (by omega) rfl (by simp [xheadOf, safeRegs])
  rw [runAl a b _ 0 (by omega), Nat.zero_add] at h
  have h0 : allTo a b 0 = [] := by simp [allTo]
  rw [h0] at h
  exact h
def basisL (a b : List Int) : List (List Int) := leastsTo (allL a b) (allL a b).length
theorem implBasis_eq (a b : List Int) (la : a.length ≤ 1099511627776) (lb : b.length ≤ 1099511627776) :
    callX XV 207 [.d (is a), .d (is b)] [] = some (.d (.tup (if fineB a = true ∧ fineB b = true ∧ (basisL a b).length ≤ 60 then [.sl U ((basisL a b).map (ints U)), .bool true] else [.sl U [], .bool false])), []) := by
  rw [z_call XV _ _ _ v207 rfl xcode_207 rfl]
  have f1 := small_eq a la
  have f2 := small_eq b lb
  cases ha : fineB a with
  | false => rw [ha] at f1; simp [v207, r207_0, r207_1, r207_2, r207_3, r207_4, r207_5, r207_6, r207_7, r207_8, r207_9, r207_10, r207_11, r207_12, r207_13, r207_14, r207_15, r207_16, r207_17, r207_18, r207_19, r207_20, r207_21, r207_22, r207_23, r207_24, r207_25, f1]
  | true =>
    rw [ha] at f1
    cases hb : fineB b with
    | false => rw [hb] at f2; simp [v207, r207_0, r207_1, r207_2, r207_3, r207_4, r207_5, r207_6, r207_7, r207_8, r207_9, r207_10, r207_11, r207_12, r207_13, r207_14, r207_15, r207_16, r207_17, r207_18, r207_19, r207_20, r207_21, r207_22, r207_23, r207_24, r207_25, f1, f2]
    | true =>
      rw [hb] at f2
      have la := fine_len ha
      have lb := fine_len hb
      have ma := maxL_fine ha
      have mb := maxL_fine hb
      have hR : (rightW a b).length ≤ 126 := ways_len _ _ (by omega) (by omega)
      have hL : (leftW a b).length ≤ 126 := ways_len _ _ (by omega) (by omega)
      have hA := allTo_len a b hR (leftW a b).length (Nat.le_refl _)
      have x1 := max_eq a (by omega) (by omega)
      have x2 := max_eq b (by omega) (by omega)
      have s1 := sums_eq b.length (maxL a).toNat (by omega) (by omega)
      have s2 := sums_eq a.length (maxL b).toNat (by omega) (by omega)
      rw [Int.toNat_of_nonneg (by omega)] at s1 s2
      have hI := implAll_eq a b ha hb
      have hJ := implLeasts_eq (allL a b) (a.length + b.length) (by unfold allL; omega) (by omega) (fun i hi => all_row a b _ _ (rAt_mem hi))
      simp only [lin_207] at hI hJ
      have e1 : ways b.length (maxL a).toNat = rightW a b := rfl
      have e2 : ways a.length (maxL b).toNat = leftW a b := rfl
      rw [e1] at s1
      rw [e2] at s2
      have eB : leastsTo (allL a b) (allL a b).length = basisL a b := rfl
      rw [eB] at hJ
      have hz2 : iss U ([] : List (List Int)) = DV.sl U [] := rfl
      rw [hz2] at hI
      generalize allL a b = al at *
      generalize leftW a b = lf at *
      generalize rightW a b = rt at *
      by_cases h60 : (basisL a b).length ≤ 60
      · have h61 : ¬ (60 : Int) < (basisL a b).length := by omega
        generalize basisL a b = bl at *
        simp [v207, r207_0, r207_1, r207_2, r207_3, r207_4, r207_5, r207_6, r207_7, r207_8, r207_9, r207_10, r207_11, r207_12, r207_13, r207_14, r207_15, r207_16, r207_17, r207_18, r207_19, r207_20, r207_21, r207_22, r207_23, r207_24, r207_25, f1, f2, x1, x2, s1, s2]
        rw [hI]
        simp [v207, r207_0, r207_1, r207_2, r207_3, r207_4, r207_5, r207_6, r207_7, r207_8, r207_9, r207_10, r207_11, r207_12, r207_13, r207_14, r207_15, r207_16, r207_17, r207_18, r207_19, r207_20, r207_21, r207_22, r207_23, r207_24, r207_25]
        rw [hJ]
        simp [v207, r207_0, r207_1, r207_2, r207_3, r207_4, r207_5, r207_6, r207_7, r207_8, r207_9, r207_10, r207_11, r207_12, r207_13, r207_14, r207_15, r207_16, r207_17, r207_18, r207_19, r207_20, r207_21, r207_22, r207_23, r207_24, r207_25, h60, h61]
      · have h61 : (60 : Int) < (basisL a b).length := by omega
        generalize basisL a b = bl at *
        simp [v207, r207_0, r207_1, r207_2, r207_3, r207_4, r207_5, r207_6, r207_7, r207_8, r207_9, r207_10, r207_11, r207_12, r207_13, r207_14, r207_15, r207_16, r207_17, r207_18, r207_19, r207_20, r207_21, r207_22, r207_23, r207_24, r207_25, f1, f2, x1, x2, s1, s2]
        rw [hI]
        simp [v207, r207_0, r207_1, r207_2, r207_3, r207_4, r207_5, r207_6, r207_7, r207_8, r207_9, r207_10, r207_11, r207_12, r207_13, r207_14, r207_15, r207_16, r207_17, r207_18, r207_19, r207_20, r207_21, r207_22, r207_23, r207_24, r207_25]
        rw [hJ]
        simp [v207, r207_0, r207_1, r207_2, r207_3, r207_4, r207_5, r207_6, r207_7, r207_8, r207_9, r207_10, r207_11, r207_12, r207_13, r207_14, r207_15, r207_16, r207_17, r207_18, r207_19, r207_20, r207_21, r207_22, r207_23, r207_24, r207_25, h60, h61]
end Go.Proofs.Ytficfeekkljoeaa.VS
namespace Go.Proofs.Ytficfeekkljoeaa.VS
set_option linter.unusedVariables false
set_option linter.unusedSimpArgs false
/-! ## Rows of rows of numbers, held to their marks -/
theorem mkS_append : ∀ (a c : List (List Int)) (k : Nat), mkS (a ++ c) k = mkS a k ++ mkS c (k + cntS a)
  | [], c, k => by simp [mkS, cntS]
  | r :: a, c, k => by
    have := cntS_append [r] a
    simp only [List.cons_append, List.nil_append] at this
    have h1 : cntS [r] = r.length := by simp [cntS]
    simp only [List.cons_append, mkS]
    rw [mkS_append a c (k + r.length), this, h1, Nat.add_assoc]
theorem heldIss_eq (ps : List (List Int)) (k : Nat) (hl : ps.length ≤ 1099511627776) (hk : k + cntS ps ≤ 4611686018427387904) (B0 B1 : Boxs) :
    callX XV 356 [tS B0.length ps, .d (.int .i64 k)] (B0 ++ (if ps = [] then [] else ibs (mkS ps k) ++ [some (iCells B0.length ps)]) ++ B1) = some (.d (.int .i64 ((k + cntS ps : Nat) : Int)), B0 ++ (if ps = [] then [] else ibs (mkS ps k) ++ [some (iCells B0.length ps)]) ++ B1) := by
  rw [z_call XV _ _ _ v356 rfl xcode_356 rfl]
  by_cases hp : ps = []
  · subst hp
    have h := loopX_upto (X := XV) (T := []) (L := (B0 ++ B1).length) (live := [0, 1, 5]) (b := b356_0) (n := 0) (β := Unit) (γ := Unit) (st := fun _ i => ⟨[(0, .d (.sl .sub [])), (1, .d (.int .i64 k)), (5, .d (.int .i64 i))], B0 ++ B1⟩) (step := fun _ _ => .inl ())
      (F := fun _ => (.exit 0, ⟨[(0, .d (.sl .sub [])), (1, .d (.int .i64 k)), (5, .d (.int .i64 0)), (9, .d (.bool false))], B0 ++ B1⟩)) (R := fun _ => (.ret, ⟨[], []⟩)) (fun a => ⟨by simp, by simp [b356_0, r356_0, r356_1, r356_2, r356_4, r356_5, r356_6, r356_3, r356_7]⟩) (fun a i hi => by omega) 0 () 0 ⟨[(0, .d (.sl .sub [])), (1, .d (.int .i64 k)), (5, .d (.int .i64 0))], B0 ++ B1⟩ rfl (head_cut (e := []) (by simp) (by simp [safeRegs]) rfl (by simp))
    simp only [runN, List.length_append] at h
    have htk : List.take (B0.length + B1.length) (B0 ++ B1) = B0 ++ B1 := List.take_of_length_le (by simp)
    simp [tS, bS, cntS, iss, v356, r356_0, r356_1, r356_2, r356_4, r356_5, r356_6, r356_3, r356_7]
    rw [h]
    simp [htk, v356, r356_0, r356_1, r356_2, r356_4, r356_5, r356_6, r356_3, r356_7]
  · have hib : (ibs (mkS ps k)).length = (ibs ps).length := mkS_ibs ps k
    rw [if_neg hp]
    have hap : B0 ++ (ibs (mkS ps k) ++ [some (iCells B0.length ps)]) ++ B1 = (B0 ++ ibs (mkS ps k)) ++ some (iCells B0.length ps) :: B1 := by simp
    rw [hap]
    have hlB : (B0 ++ ibs (mkS ps k)).length = B0.length + (ibs ps).length := by rw [List.length_append, hib]
    have h := loopX_upto (X := XV) (T := []) (L := B0.length + (ibs ps).length + (B1.length + 1)) (live := [0, 1, 5]) (b := b356_0) (n := ps.length) (γ := Unit) (st := fun (_ : Unit) i => ⟨[(0, .tsl false (B0.length + (ibs ps).length) 1 ps.length), (1, .d (.int .i64 ((k + cntS (ps.take i) : Nat) : Int))), (5, .d (.int .i64 i))], (B0 ++ ibs (mkS ps k)) ++ some (iCells B0.length ps) :: B1⟩) (step := fun _ _ => .inl ())
      (F := fun _ => (.exit 0, ⟨[(0, .tsl false (B0.length + (ibs ps).length) 1 ps.length), (1, .d (.int .i64 ((k + cntS ps : Nat) : Int))), (5, .d (.int .i64 ps.length)), (9, .d (.bool false))], (B0 ++ ibs (mkS ps k)) ++ some (iCells B0.length ps) :: B1⟩)) (R := fun _ => (.ret, ⟨[], []⟩))
      (fun _ => ⟨by simp, by rw [List.take_length]; generalize ((k + cntS ps : Nat) : Int) = K; simp [b356_0, r356_0, r356_1, r356_2, r356_4, r356_5, r356_6, r356_3, r356_7]⟩)
      (fun _ i hi => by
        have hw := wrap_succ (n := i) (by omega)
        have hspl : ps = ps.take i ++ rAt ps i :: ps.drop (i + 1) := by
          rw [← rAt_lt hi, ← List.drop_eq_getElem_cons hi, List.take_append_drop]
        have hcs := cntS_snoc (ps.take i) (rAt ps i)
        rw [← rTake ps i hi] at hcs
        have hcl : cntS (ps.take (i + 1)) ≤ cntS ps := by
          have := cntS_append (ps.take (i + 1)) (ps.drop (i + 1)); rw [List.take_append_drop] at this; omega
        have hm := heldInts_eq (rAt ps i).length (k + cntS (ps.take i)) (by omega) (B0 ++ ibs (mkS (ps.take i) k)) (ibs (mkS (ps.drop (i + 1)) (k + cntS (ps.take i) + (rAt ps i).length)) ++ some (iCells B0.length ps) :: B1)
        rw [List.length_append, mkS_ibs, tI_len _ (mk (rAt ps i).length (k + cntS (ps.take i))) (rAt ps i) (mk_len _ _)] at hm
        have e1 : B0 ++ ibs (mkS (ps.take i) k) ++ bI (mk (rAt ps i).length (k + cntS (ps.take i))) ++ (ibs (mkS (ps.drop (i + 1)) (k + cntS (ps.take i) + (rAt ps i).length)) ++ some (iCells B0.length ps) :: B1) = (B0 ++ ibs (mkS ps k)) ++ some (iCells B0.length ps) :: B1 := by
          have : mkS ps k = mkS (ps.take i) k ++ (mk (rAt ps i).length (k + cntS (ps.take i)) :: mkS (ps.drop (i + 1)) (k + cntS (ps.take i) + (rAt ps i).length)) := by
            conv => lhs; rw [hspl, mkS_append]
            rfl
          rw [this, ibs_append]; simp [ibs]
        rw [e1, show k + cntS (ps.take i) + (rAt ps i).length = k + cntS (ps.take (i + 1)) by omega] at hm
        have hcell : (iCells B0.length ps)[i]? = some (tI (B0.length + (ibs (ps.take i)).length) (rAt ps i)) := by
          rw [hspl, iCells_append]
          have hti : (ps.take i).length = i := by simp; omega
          rw [← hspl, List.getElem?_append_right (by rw [iCells_len]; omega), iCells_len, hti, Nat.sub_self]
          simp [iCells]
        have hcl2 := clr_tI (B0.length + (ibs (ps.take i)).length) (rAt ps i)
        have hneg : ¬ (((k + cntS (ps.take (i + 1)) : Nat) : Int) < 0) := by omega
        generalize tI (B0.length + (ibs (ps.take i)).length) (rAt ps i) = y at hm hcell hcl2
        generalize iCells B0.length ps = cs at hm hcell ⊢
        generalize ((k + cntS (ps.take i) : Nat) : Int) = K0 at hm ⊢
        generalize hK1 : ((k + cntS (ps.take (i + 1)) : Nat) : Int) = K1 at hm hneg
        generalize B0 ++ ibs (mkS ps k) = Bi at hm hlB ⊢
        rw [← hlB]
        have hget : ∀ (c : List AV) (r : Boxs), (Bi ++ some c :: r)[Bi.length]? = some (some c) := fun c r => get_at Bi (some c) r
        exact ⟨⟨[(0, .tsl false Bi.length 1 ps.length), (1, .d (.int .i64 K1)), (5, .d (.int .i64 ((i + 1 : Nat) : Int)))], Bi ++ some cs :: B1⟩, by
          simp [b356_0, r356_0, r356_1, r356_2, r356_4, r356_5, r356_6, r356_3, r356_7, hi, hw, hget, hcell, hcl2, hm, hneg], head_cut (e := []) (by rw [← hK1]; rfl) (by simp [safeRegs, safe_tsl]) (by simp <;> omega) (by simp)⟩)
      ps.length () 0 ⟨[(0, .tsl false (B0.length + (ibs ps).length) 1 ps.length), (1, .d (.int .i64 (k : Int))), (5, .d (.int .i64 0))], (B0 ++ ibs (mkS ps k)) ++ some (iCells B0.length ps) :: B1⟩ (by omega) (head_cut (e := []) (by simp [cntS]) (by simp [safeRegs, safe_tsl]) (by simp [mkS_ibs]; omega) (by simp))
    rw [run_on] at h
    have hln3 : ((B0 ++ ibs (mkS ps k)) ++ some (iCells B0.length ps) :: B1).length = B0.length + (ibs ps).length + (B1.length + 1) := by simp [mkS_ibs]; omega
    simp only [tS, if_neg hp]
    generalize hQ' : (B0 ++ ibs (mkS ps k)) ++ some (iCells B0.length ps) :: B1 = Q' at h hln3 ⊢
    generalize ((k + cntS ps : Nat) : Int) = Kn at h ⊢
    have htk : List.take (B0.length + (ibs ps).length + (B1.length + 1)) Q' = Q' := List.take_of_length_le (by omega)
    rw [← hln3] at h htk
    have hsf : B0.length + (ibs ps).length < Q'.length := by omega
    simp [v356, r356_0, r356_1, r356_2, r356_4, r356_5, r356_6, r356_3, r356_7, hsf]
    rw [h]
    simp [v356, r356_0, r356_1, r356_2, r356_4, r356_5, r356_6, r356_3, r356_7, htk]
end Go.Proofs.Ytficfeekkljoeaa.VS
namespace Go.Proofs.Ytficfeekkljoeaa.VS
set_option linter.unusedVariables false
set_option linter.unusedSimpArgs false
/-! ## The reference's Basis -/
def pickS (a b x y : List Int) : Bool := W (dotS b y 0 0 b.length) == W (dotS a x 0 0 a.length)
/-- Of the right rows those at the places 1..k. -/
def sideS (a b x : List Int) (right : List (List Int)) : Nat → List (List Int)
  | 0 => []
  | k + 1 => sideS a b x right k ++ (if pickS a b x (rAt right (k + 1)) then [x ++ rAt right (k + 1)] else [])
theorem sideS_succ (a b x : List Int) (right : List (List Int)) (k : Nat) : sideS a b x right (k + 1) = sideS a b x right k ++ (if pickS a b x (rAt right (k + 1)) then [x ++ rAt right (k + 1)] else []) := rfl
theorem sideS_len (a b x : List Int) (right : List (List Int)) : ∀ k, (sideS a b x right k).length ≤ k
  | 0 => Nat.le_refl _
  | k + 1 => by
    have := sideS_len a b x right k
    simp only [sideS, List.length_append]
    split <;> simp <;> omega
def stepSs (a b x : List Int) (right acc : List (List Int)) (k : Nat) : List (List Int) ⊕ Unit := .inl (acc ++ (if pickS a b x (rAt right k) then [x ++ rAt right k] else []))
theorem runSs (a b x : List Int) (right acc : List (List Int)) : ∀ (j k : Nat), runN (stepSs a b x right) j (acc ++ sideS a b x right k) (k + 1) = .inl (acc ++ sideS a b x right (k + j))
  | 0, k => rfl
  | j + 1, k => by
    simp only [runN, stepSs]
    rw [List.append_assoc, ← sideS_succ, runSs a b x right acc j (k + 1)]
    congr 3; omega
theorem specSide_eq (a b x : List Int) (left right acc : List (List Int)) (i : Nat) (hi : i < left.length) (hxl : rAt left i = x) (ha : a.length ≤ 1000) (hb : b.length ≤ 1000) (hx : x.length = a.length) (hr : right.length ≤ 1000) (hr0 : 0 < right.length) (hl : left.length ≤ 1000) (hacc : acc.length ≤ 1000000)
    (hrl : ∀ i, i < right.length → (rAt right i).length = b.length) :
    loopX XV (XV.lin 218) 0 [0, 1, 5, 6, 7, 8, 9, 10] b218_1 ⟨[(0, .d (is a)), (1, .d (is b)), (5, .d (iss U acc)), (6, .d (iss .sub left)), (7, .d (iss .sub right)), (8, .d (.int .i64 i)), (9, .d (.int .i64 (W (dotS a x 0 0 a.length)))), (10, .d (.int .i64 1))], []⟩ =
      some (.exit 2, ⟨[(0, .d (is a)), (1, .d (is b)), (5, .d (iss U (acc ++ sideS a b x right (right.length - 1)))), (6, .d (iss .sub left)), (7, .d (iss .sub right)), (8, .d (.int .i64 i)), (9, .d (.int .i64 (W (dotS a x 0 0 a.length)))), (10, .d (.int .i64 right.length)), (38, .d (.bool false))], []⟩) := by
  have h := loopX_inv (X := XV) (T := XV.lin 218) (L := 0) (live := [0, 1, 5, 6, 7, 8, 9, 10]) (b := b218_1) (n := right.length) (γ := Unit) (st := fun (A : List (List Int)) j => ⟨[(0, .d (is a)), (1, .d (is b)), (5, .d (iss U A)), (6, .d (iss .sub left)), (7, .d (iss .sub right)), (8, .d (.int .i64 i)), (9, .d (.int .i64 (W (dotS a x 0 0 a.length)))), (10, .d (.int .i64 j))], []⟩) (step := stepSs a b x right)
    (F := fun A => (.exit 2, ⟨[(0, .d (is a)), (1, .d (is b)), (5, .d (iss U A)), (6, .d (iss .sub left)), (7, .d (iss .sub right)), (8, .d (.int .i64 i)), (9, .d (.int .i64 (W (dotS a x 0 0 a.length)))), (10, .d (.int .i64 right.length)), (38, .d (.bool false))], []⟩)) (R := fun _ => (.ret, ⟨[], []⟩))
    (fun A j => A.length ≤ 1000000 + j)
    (fun A _ => ⟨by simp, by simp [b218_1, r218_0, r218_1, r218_2, r218_3, r218_4, r218_5, r218_7, r218_8, r218_9, r218_11, r218_12, r218_13, r218_10, r218_6, r218_14]⟩)
    (fun A j hj hinv => by
      have hw := wrap_succ (n := j) (by omega)
      have hyl := hrl j hj
      generalize hy : rAt right j = y at *
      have hg : right[j] = y := by rw [rAt_lt hj, hy]
      have hgx : left[i] = x := by rw [rAt_lt hi, hxl]
      have ht := total_eq b y 0 (by omega) (by omega) (by omega)
      have a1 := app_ints [] x .sub (by simp; omega)
      have a2 := app_ints x y .sub (by omega)
      have h4 : xappend 1 24 (iss U A) (.sl U [.sl U ((x ++ y).map (.int .i64))]) = some (iss U (A ++ [x ++ y])) := by
        have := app_row A U U U (x ++ y) (by omega)
        rw [show iss U (A ++ [x ++ y]) = .sl U (A.map (ints U) ++ [ints U (x ++ y)]) by simp [iss]]
        exact this
      simp only [List.map_nil, List.nil_append] at a1
      unfold stepSs
      rw [hy]
      generalize hz : x ++ y = z at *
      simp only [Int.natCast_zero] at ht
      cases hq : pickS a b x y with
      | true =>
        have hp : (W (dotS b y 0 0 b.length) == W (dotS a x 0 0 a.length)) = true := hq
        generalize W (dotS b y 0 0 b.length) = d1 at *
        generalize W (dotS a x 0 0 a.length) = d2 at *
        refine ⟨⟨_, by simp [b218_1, r218_0, r218_1, r218_2, r218_3, r218_4, r218_5, r218_7, r218_8, r218_9, r218_11, r218_12, r218_13, r218_10, r218_6, r218_14, hj, hi, hw, cut, hg, hgx, ht, a1, a2, h4, hp]; rfl, by simp [xheadOf, safeRegs]⟩, fun a' h => by simp at h; subst h; simp; omega⟩
      | false =>
        have hp : (W (dotS b y 0 0 b.length) == W (dotS a x 0 0 a.length)) = false := hq
        generalize W (dotS b y 0 0 b.length) = d1 at *
        generalize W (dotS a x 0 0 a.length) = d2 at *
        refine ⟨⟨_, by simp [b218_1, r218_0, r218_1, r218_2, r218_3, r218_4, r218_5, r218_7, r218_8, r218_9, r218_11, r218_12, r218_13, r218_10, r218_6, r218_14, hj, hi, hw, cut, hg, hgx, ht, h4, hp]; rfl, by simp [xheadOf, safeRegs]⟩, fun a' h => by simp at h; subst h; omega⟩)
    (right.length - 1) acc 1 ⟨[(0, .d (is a)), (1, .d (is b)), (5, .d (iss U acc)), (6, .d (iss .sub left)), (7, .d (iss .sub right)), (8, .d (.int .i64 i)), (9, .d (.int .i64 (W (dotS a x 0 0 a.length)))), (10, .d (.int .i64 1))], []⟩ (by omega) (by omega) (by simp [xheadOf, safeRegs])
  have hr' := runSs a b x right acc (right.length - 1) 0
  simp only [sideS, List.append_nil, Nat.zero_add] at hr'
  rw [hr'] at h
  exact h
def allS (a b : List Int) : Nat → List (List Int)
  | 0 => []
  | k + 1 => allS a b k ++ sideS a b (rAt (leftW a b) (k + 1)) (rightW a b) ((rightW a b).length - 1)
theorem allS_succ (a b : List Int) (k : Nat) : allS a b (k + 1) = allS a b k ++ sideS a b (rAt (leftW a b) (k + 1)) (rightW a b) ((rightW a b).length - 1) := rfl
theorem allS_len (a b : List Int) (hR : (rightW a b).length ≤ 126) : ∀ k, (allS a b k).length ≤ 126 * k
  | 0 => by simp [allS]
  | k + 1 => by
    have := allS_len a b hR k
    have := sideS_len a b (rAt (leftW a b) (k + 1)) (rightW a b) ((rightW a b).length - 1)
    simp only [allS, List.length_append]
    omega
def stepAs (a b : List Int) (acc : List (List Int)) (k : Nat) : List (List Int) ⊕ Unit := .inl (acc ++ sideS a b (rAt (leftW a b) k) (rightW a b) ((rightW a b).length - 1))
theorem runAs (a b : List Int) : ∀ (j k : Nat), runN (stepAs a b) j (allS a b k) (k + 1) = .inl (allS a b (k + j))
  | 0, k => rfl
  | j + 1, k => by
    simp only [runN, stepAs]
    rw [← allS_succ, runAs a b j (k + 1)]
    congr 2; omega
theorem ways_pos : ∀ (n m : Nat), 0 < (ways n m).length
  | 0, m => by simp [ways]
  | n + 1, m => by
    have := ways_pos n (m - 0)
    simp only [ways, List.range_succ_eq_map, List.flatMap_cons, List.length_append, List.length_map]
    omega
theorem l7All_eq (a b : List Int) (ha : fineB a = true) (hb : fineB b = true) : callX XV 218 [.d (is a), .d (is b)] [] = some (.d (iss U (allS a b ((leftW a b).length - 1))), []) := by
  rw [z_call XV _ _ _ v218 rfl xcode_218 rfl]
  have la := fine_len ha
  have lb := fine_len hb
  have ma := maxL_fine ha
  have mb := maxL_fine hb
  have hR : (rightW a b).length ≤ 126 := ways_len _ _ (by omega) (by omega)
  have hL : (leftW a b).length ≤ 126 := ways_len _ _ (by omega) (by omega)
  have hR0 : 0 < (rightW a b).length := ways_pos _ _
  have hL0 : 0 < (leftW a b).length := ways_pos _ _
  have hRr : ∀ i, i < (rightW a b).length → (rAt (rightW a b) i).length = b.length := fun i hi => ways_row _ _ _ (rAt_mem hi)
  have hLr : ∀ i, i < (leftW a b).length → (rAt (leftW a b) i).length = a.length := fun i hi => ways_row _ _ _ (rAt_mem hi)
  have h := loopX_inv (X := XV) (T := XV.lin 218) (L := 0) (live := [0, 1, 5, 6, 7, 8]) (b := b218_0) (n := (leftW a b).length) (γ := Unit) (st := fun (A : List (List Int)) j => ⟨[(0, .d (is a)), (1, .d (is b)), (5, .d (iss U A)), (6, .d (iss .sub (leftW a b))), (7, .d (iss .sub (rightW a b))), (8, .d (.int .i64 j))], []⟩) (step := stepAs a b)
    (F := fun A => (.exit 0, ⟨[(0, .d (is a)), (1, .d (is b)), (5, .d (iss U A)), (6, .d (iss .sub (leftW a b))), (7, .d (iss .sub (rightW a b))), (8, .d (.int .i64 (leftW a b).length)), (26, .d (.bool false))], []⟩)) (R := fun _ => (.ret, ⟨[], []⟩))
    (fun A j => 0 < j ∧ A = allS a b (j - 1))
    (fun A _ => ⟨by simp, by simp [b218_0, r218_0, r218_1, r218_2, r218_3, r218_4, r218_5, r218_7, r218_8, r218_9, r218_11, r218_12, r218_13, r218_10, r218_6, r218_14]⟩)
    (fun A j hj hinv => by
      obtain ⟨hj0, hA⟩ := hinv
      have hw := wrap_succ (n := j) (by omega)
      have hAl := allS_len a b hR (j - 1)
      rw [← hA] at hAl
      have ht := total_eq a (rAt (leftW a b) j) 0 (by omega) (by rw [hLr j hj]; omega) (by rw [hLr j hj]; omega)
      have hI := specSide_eq a b (rAt (leftW a b) j) (leftW a b) (rightW a b) A j hj rfl (by omega) (by omega) (hLr j hj) (by omega) hR0 (by omega) (by omega) hRr
      simp only [lin_218] at hI
      have hS : A ++ sideS a b (rAt (leftW a b) j) (rightW a b) ((rightW a b).length - 1) = allS a b (j + 1 - 1) := by
        rw [hA]
        obtain ⟨i, rfl⟩ : ∃ i, j = i + 1 := ⟨j - 1, by omega⟩
        rfl
      unfold stepAs
      rw [hS] at hI ⊢
      generalize hg : rAt (leftW a b) j = x at *
      have hgx : (leftW a b)[j] = x := by rw [rAt_lt hj, hg]
      simp only [Int.natCast_zero] at ht
      generalize W (dotS a x 0 0 a.length) = d2 at *
      generalize allS a b (j + 1 - 1) = q at hI ⊢
      refine ⟨⟨_, by simp [b218_0, r218_0, r218_1, r218_2, r218_3, r218_4, r218_5, r218_7, r218_8, r218_9, r218_11, r218_12, r218_13, r218_10, r218_6, r218_14, hj, hw, cut, hgx, ht, hI]; rfl, by simp [xheadOf, safeRegs]⟩, fun a' h => by simp at h; subst h; exact ⟨by omega, rfl⟩⟩)
    ((leftW a b).length - 1) (allS a b 0) 1 ⟨[(0, .d (is a)), (1, .d (is b)), (5, .d (iss U (allS a b 0))), (6, .d (iss .sub (leftW a b))), (7, .d (iss .sub (rightW a b))), (8, .d (.int .i64 1))], []⟩ (by omega) ⟨by omega, rfl⟩ (by simp [xheadOf, safeRegs])
  rw [runAs a b _ 0, Nat.zero_add] at h
  simp only [lin_218] at h
  have x1 := top_eq a (by omega)
  have x2 := top_eq b (by omega)
  rw [topL_max ha] at x1
  rw [topL_max hb] at x2
  have s1 := ways_eq b.length (maxL a).toNat (by omega) (by omega)
  have s2 := ways_eq a.length (maxL b).toNat (by omega) (by omega)
  rw [Int.toNat_of_nonneg (by omega)] at s1 s2
  have e1 : ways b.length (maxL a).toNat = rightW a b := rfl
  have e2 : ways a.length (maxL b).toNat = leftW a b := rfl
  rw [e1] at s1
  rw [e2] at s2
  have hz2 : iss U (allS a b 0) = DV.sl U [] := rfl
  rw [hz2] at h
  generalize allS a b ((leftW a b).length - 1) = q at *
  generalize leftW a b = lf at *
  generalize rightW a b = rt at *
  simp [v218, r218_0, r218_1, r218_2, r218_3, r218_4, r218_5, r218_7, r218_8, r218_9, r218_11, r218_12, r218_13, r218_10, r218_6, r218_14, x1, x2, s1, s2]
  rw [h]
  simp [v218, r218_0, r218_1, r218_2, r218_3, r218_4, r218_5, r218_7, r218_8, r218_9, r218_11, r218_12, r218_13, r218_10, r218_6, r218_14]
end Go.Proofs.Ytficfeekkljoeaa.VS
namespace Go.Proofs.Ytficfeekkljoeaa.VS
set_option linter.unusedVariables false
set_option linter.unusedSimpArgs false
/-! ## Both find the same -/
theorem ways_facts : ∀ n, n < 6 → ∀ m, m < 5 → (ways n m)[0]? = some (List.replicate n 0) ∧ (∀ r, r ∈ ways n m → ∀ e, e ∈ r → (0 : Int) ≤ e ∧ e ≤ 4) ∧ (∀ r, r ∈ (ways n m).drop 1 → ∃ e, e ∈ r ∧ (0 : Int) < e) := by decide +kernel
theorem iAt_in (r : List Int) (lo hi : Int) (h0 : lo ≤ 0) (h1 : 0 ≤ hi) (h : ∀ e, e ∈ r → lo ≤ e ∧ e ≤ hi) (i : Nat) : lo ≤ iAt r i ∧ iAt r i ≤ hi := by
  unfold iAt
  cases hq : r[i]? with
  | none => simpa using ⟨h0, h1⟩
  | some e => simpa using h e (List.mem_of_getElem? hq)
theorem dot_in (a x : List Int) (o : Nat) (ha : ∀ i, i < a.length → 1 ≤ iAt a i ∧ iAt a i ≤ 4) (hx : ∀ i, 0 ≤ iAt x i ∧ iAt x i ≤ 4) : ∀ (k i : Nat), i + k ≤ a.length → 0 ≤ dotS a x o i k ∧ dotS a x o i k ≤ 16 * k
  | 0, i, _ => by simp [dotS]
  | k + 1, i, h => by
    have ih := dot_in a x o ha hx k (i + 1) (by omega)
    have h1 := ha i (by omega)
    have h2 := hx (o + i)
    have h3 : 0 ≤ iAt a i * iAt x (o + i) := Int.mul_nonneg (by omega) h2.1
    have h4 : iAt a i * iAt x (o + i) ≤ 4 * 4 := Int.mul_le_mul h1.2 h2.2 h2.1 (by omega)
    simp only [dotS]
    push_cast
    omega
theorem dot_pos (a x : List Int) (o : Nat) (ha : ∀ i, i < a.length → 1 ≤ iAt a i ∧ iAt a i ≤ 4) (hx : ∀ i, 0 ≤ iAt x i ∧ iAt x i ≤ 4) : ∀ (k i j : Nat), i + k ≤ a.length → i ≤ j → j < i + k → 0 < iAt x (o + j) → 0 < dotS a x o i k
  | 0, i, j, _, h1, h2, _ => by omega
  | k + 1, i, j, h, h1, h2, h3 => by
    have ih := dot_in a x o ha hx k (i + 1) (by omega)
    have h4 := ha i (by omega)
    have h5 := hx (o + i)
    have h6 : 0 ≤ iAt a i * iAt x (o + i) := Int.mul_nonneg (by omega) h5.1
    simp only [dotS]
    by_cases he : j = i
    · subst he
      have : 0 < iAt a j * iAt x (o + j) := Int.mul_pos (by omega) h3
      omega
    · have := dot_pos a x o ha hx k (i + 1) j (by omega) (by omega) (by omega) h3
      omega
theorem dot_zero (a x : List Int) (o : Nat) : ∀ (k i : Nat), (∀ j, i ≤ j → j < i + k → iAt x (o + j) = 0) → dotS a x o i k = 0
  | 0, i, _ => rfl
  | k + 1, i, h => by
    simp only [dotS]
    rw [h i (Nat.le_refl _) (by omega), dot_zero a x o k (i + 1) (fun j h1 h2 => h j (by omega) (by omega))]
    omega
theorem dot_same (a x y : List Int) (o o' : Nat) : ∀ (k i : Nat), (∀ j, i ≤ j → j < i + k → iAt x (o + j) = iAt y (o' + j)) → dotS a x o i k = dotS a y o' i k
  | 0, i, _ => rfl
  | k + 1, i, h => by
    simp only [dotS]
    rw [h i (Nat.le_refl _) (by omega), dot_same a x y o o' k (i + 1) (fun j h1 h2 => h j (by omega) (by omega))]
theorem iAt_left (x y : List Int) (i : Nat) (h : i < x.length) : iAt (x ++ y) i = iAt x i := by
  unfold iAt; rw [List.getElem?_append_left h]
theorem iAt_right (x y : List Int) (i : Nat) : iAt (x ++ y) (x.length + i) = iAt y i := by
  unfold iAt; rw [List.getElem?_append_right (by omega)]; congr 2; omega
theorem iAt_rep (n i : Nat) : iAt (List.replicate n 0) i = 0 := by
  unfold iAt
  cases hq : (List.replicate n (0 : Int))[i]? with
  | none => rfl
  | some e => have := List.eq_of_mem_replicate (List.mem_of_getElem? hq); simp [this]
theorem W_small {x : Int} (h0 : 0 ≤ x) (h1 : x ≤ 1000) : W x = x := wrap_i64 (by omega) (by omega)
theorem mx_pos (l : List Int) : ∀ (k i : Nat) (m : Int), (0 < m ∨ ∃ j, i ≤ j ∧ j < i + k ∧ 0 < iAt l j) → 0 < mxF l i k m
  | 0, i, m, h => by
    rcases h with h | ⟨j, h1, h2, _⟩
    · exact h
    · omega
  | k + 1, i, m, h => by
    simp only [mxF]
    refine mx_pos l k (i + 1) _ ?_
    rcases h with h | ⟨j, h1, h2, h3⟩
    · left; split <;> omega
    · by_cases he : j = i
      · subst he; left; split <;> omega
      · exact .inr ⟨j, by omega, by omega, h3⟩
theorem mx_zero (l : List Int) (hl : ∀ j, iAt l j = 0) : ∀ (k i : Nat), mxF l i k 0 = 0
  | 0, i => rfl
  | k + 1, i => by simp only [mxF, hl]; exact mx_zero l hl k (i + 1)
structure Way (n : Nat) (x : List Int) : Prop where
  len : x.length = n
  at_ : ∀ i, 0 ≤ iAt x i ∧ iAt x i ≤ 4
theorem way_of {n m : Nat} (hn : n ≤ 5) (hm : m ≤ 4) {x : List Int} (h : x ∈ ways n m) : Way n x :=
  ⟨ways_row n m x h, fun i => iAt_in x 0 4 (by omega) (by omega) (fun e he => (ways_facts n (by omega) m (by omega)).2.1 x h e he) i⟩
theorem way_zero {n m : Nat} (hn : n ≤ 5) (hm : m ≤ 4) : rAt (ways n m) 0 = List.replicate n 0 := by
  have := (ways_facts n (by omega) m (by omega)).1
  simp [rAt, this]
theorem way_pos {n m : Nat} (hn : n ≤ 5) (hm : m ≤ 4) {i : Nat} (hi : i + 1 < (ways n m).length) : ∃ j, j < n ∧ 0 < iAt (rAt (ways n m) (i + 1)) j := by
  have hm' : rAt (ways n m) (i + 1) ∈ (ways n m).drop 1 := by
    rw [← rAt_lt hi]
    exact List.mem_iff_getElem?.2 ⟨i, by rw [List.getElem?_drop, Nat.add_comm 1 i]; simp [hi]⟩
  obtain ⟨e, he, hp⟩ := (ways_facts n (by omega) m (by omega)).2.2 _ hm'
  obtain ⟨j, hj⟩ := List.mem_iff_getElem?.1 he
  have hl := ways_rows n m (i + 1) hi
  refine ⟨j, by rw [← hl]; exact (List.getElem?_eq_some_iff.1 hj).1, ?_⟩
  simp [iAt, hj, hp]
theorem solves_way {a b x y : List Int} (ha : fineB a = true) (hb : fineB b = true) (hx : Way a.length x) (hy : Way b.length y) : solvesB a b (x ++ y) = decide (dotS a x 0 0 a.length = dotS b y 0 0 b.length) := by
  have la := fine_len ha
  have lb := fine_len hb
  have hA := dot_in a x 0 (fun i hi => fine_at ha i hi) hx.at_ a.length 0 (by omega)
  have hB := dot_in b y 0 (fun i hi => fine_at hb i hi) hy.at_ b.length 0 (by omega)
  have e1 : dotS a (x ++ y) 0 0 a.length = dotS a x 0 0 a.length := dot_same a _ _ 0 0 _ _ (fun j h1 h2 => by
    have := hx.len
    simp only [Nat.zero_add]
    exact iAt_left x y j (by omega))
  have e2 : dotS b (x ++ y) a.length 0 b.length = dotS b y 0 0 b.length := dot_same b _ _ a.length 0 _ _ (fun j h1 h2 => by
    rw [← hx.len, iAt_right, Nat.zero_add])
  have hneg : findAt (negAt (x ++ y)) (x ++ y).length 0 = none := by
    cases hq : findAt (negAt (x ++ y)) (x ++ y).length 0 with
    | none => rfl
    | some j =>
      obtain ⟨_, h2, h3⟩ := findAt_lt _ _ _ _ hq
      exfalso
      unfold negAt at h3
      simp only [decide_eq_true_eq] at h3
      by_cases hj : j < x.length
      · rw [iAt_left x y j hj] at h3
        have := (hx.at_ j).1
        omega
      · obtain ⟨i, rfl⟩ : ∃ i, j = x.length + i := ⟨j - x.length, by omega⟩
        rw [iAt_right] at h3
        have := (hy.at_ i).1
        omega
  unfold solvesB
  rw [hneg, e1, e2, W_small hA.1 (by omega), W_small hB.1 (by omega)]
  have hl : (x ++ y).length = a.length + b.length := by rw [List.length_append, hx.len, hy.len]
  simp [hl]
  rw [Bool.eq_iff_iff]; simp
theorem pickS_way {a b x y : List Int} (ha : fineB a = true) (hb : fineB b = true) (hx : Way a.length x) (hy : Way b.length y) : pickS a b x y = decide (dotS a x 0 0 a.length = dotS b y 0 0 b.length) := by
  have la := fine_len ha
  have lb := fine_len hb
  have hA := dot_in a x 0 (fun i hi => fine_at ha i hi) hx.at_ a.length 0 (by omega)
  have hB := dot_in b y 0 (fun i hi => fine_at hb i hi) hy.at_ b.length 0 (by omega)
  unfold pickS
  rw [W_small hA.1 (by omega), W_small hB.1 (by omega), Bool.eq_iff_iff]
  simp only [beq_iff_eq, decide_eq_true_eq]
  constructor <;> exact fun h => h.symm
end Go.Proofs.Ytficfeekkljoeaa.VS
namespace Go.Proofs.Ytficfeekkljoeaa.VS
set_option linter.unusedVariables false
set_option linter.unusedSimpArgs false
/-! ## Both find the same rows; the reference's Basis -/
theorem maxL_pos {x y : List Int} (h0 : 0 < x.length) (h : ∃ j, j < x.length ∧ 0 < iAt x j) : 0 < maxL (x ++ y) := by
  obtain ⟨j, h1, h2⟩ := h
  have hl : (x ++ y).length = x.length + y.length := List.length_append
  unfold maxL
  refine mx_pos _ _ _ _ ?_
  by_cases hj : j = 0
  · subst hj
    left; rw [iAt_left x y 0 h0]; exact h2
  · right
    exact ⟨j, by omega, by omega, by rw [iAt_left x y j h1]; exact h2⟩
theorem all_same {a b : List Int} (ha : fineB a = true) (hb : fineB b = true) : allL a b = allS a b ((leftW a b).length - 1) := by
  have la := fine_len ha
  have lb := fine_len hb
  have ma := maxL_fine ha
  have mb := maxL_fine hb
  have na : (maxL a).toNat ≤ 4 := by omega
  have nb : (maxL b).toNat ≤ 4 := by omega
  have hR0 : 0 < (rightW a b).length := ways_pos _ _
  have hL0 : 0 < (leftW a b).length := ways_pos _ _
  have wL : ∀ i, i < (leftW a b).length → Way a.length (rAt (leftW a b) i) := fun i hi => way_of la.2 nb (rAt_mem hi)
  have wR : ∀ i, i < (rightW a b).length → Way b.length (rAt (rightW a b) i) := fun i hi => way_of lb.2 na (rAt_mem hi)
  have zL : rAt (leftW a b) 0 = List.replicate a.length 0 := way_zero la.2 nb
  have zR : rAt (rightW a b) 0 = List.replicate b.length 0 := way_zero lb.2 na
  have pL : ∀ i, i + 1 < (leftW a b).length → ∃ j, j < a.length ∧ 0 < iAt (rAt (leftW a b) (i + 1)) j := fun i hi => way_pos la.2 nb hi
  have pR : ∀ i, i + 1 < (rightW a b).length → ∃ j, j < b.length ∧ 0 < iAt (rAt (rightW a b) (i + 1)) j := fun i hi => way_pos lb.2 na hi
  have dz : ∀ (c : List Int) (n : Nat), dotS c (List.replicate n 0) 0 0 c.length = 0 := fun c n => dot_zero c _ 0 _ _ (fun j _ _ => iAt_rep _ _)
  -- the left row of 0
  have s0 : ∀ k, k ≤ (rightW a b).length → sideTo a b (rAt (leftW a b) 0) (rightW a b) k = [] := by
    intro k
    induction k with
    | zero => intro _; simp [sideTo]
    | succ k ih =>
      intro hk
      rw [sideTo_succ a b _ _ k (by omega), ih (by omega)]
      have hp : pickB a b (rAt (leftW a b) 0 ++ rAt (rightW a b) k) = false := by
        have hs := solves_way ha hb (wL 0 hL0) (wR k (by omega))
        unfold pickB
        rw [hs, zL, dz]
        cases k with
        | zero =>
          rw [zR]
          have : maxL (List.replicate a.length 0 ++ List.replicate b.length 0) = 0 := by
            rw [List.replicate_append_replicate]
            unfold maxL
            rw [iAt_rep]
            exact mx_zero _ (fun j => iAt_rep _ j) _ _
          rw [this]; rfl
        | succ k =>
          obtain ⟨j, h1, h2⟩ := pR k (by omega)
          have := dot_pos b (rAt (rightW a b) (k + 1)) 0 (fun i hi => fine_at hb i hi) (wR (k + 1) (by omega)).at_ b.length 0 j (by omega) (by omega) (by omega) (by rw [Nat.zero_add]; exact h2)
          have hne : ¬ ((0 : Int) = dotS b (rAt (rightW a b) (k + 1)) 0 0 b.length) := by omega
          simp [hne]
      rw [hp]; rfl
  have s1 : ∀ i, i + 1 < (leftW a b).length → ∀ k, k + 1 ≤ (rightW a b).length → sideTo a b (rAt (leftW a b) (i + 1)) (rightW a b) (k + 1) = sideS a b (rAt (leftW a b) (i + 1)) (rightW a b) k := by
    intro i hi k
    have hw := wL (i + 1) hi
    obtain ⟨j, j1, j2⟩ := pL i hi
    have hd := dot_pos a (rAt (leftW a b) (i + 1)) 0 (fun i hi => fine_at ha i hi) hw.at_ a.length 0 j (by omega) (by omega) (by omega) (by rw [Nat.zero_add]; exact j2)
    have hm : ∀ y, 0 < maxL (rAt (leftW a b) (i + 1) ++ y) := fun y => maxL_pos (by rw [hw.len]; omega) ⟨j, by rw [hw.len]; exact j1, j2⟩
    have hp : ∀ k, k < (rightW a b).length → pickB a b (rAt (leftW a b) (i + 1) ++ rAt (rightW a b) k) = pickS a b (rAt (leftW a b) (i + 1)) (rAt (rightW a b) k) := fun k hk => by
      unfold pickB
      rw [solves_way ha hb hw (wR k hk), pickS_way ha hb hw (wR k hk)]
      simp [hm]
    induction k with
    | zero =>
      intro hk
      rw [sideTo_succ a b _ _ 0 (by omega), hp 0 (by omega), pickS_way ha hb hw (wR 0 (by omega)), zR, dz]
      have hne : ¬ (dotS a (rAt (leftW a b) (i + 1)) 0 0 a.length = 0) := by omega
      simp [hne, sideTo, sideS]
    | succ k ih =>
      intro hk
      rw [sideTo_succ a b _ _ (k + 1) (by omega), ih (by omega), hp (k + 1) (by omega), sideS_succ]
  have main : ∀ k, k + 1 ≤ (leftW a b).length → allTo a b (k + 1) = allS a b k := by
    intro k
    induction k with
    | zero =>
      intro hk
      rw [allTo_succ a b 0 (by omega), s0 _ (Nat.le_refl _)]
      simp [allTo, allS]
    | succ k ih =>
      intro hk
      rw [allTo_succ a b (k + 1) (by omega), ih (by omega), allS_succ]
      have := s1 k (by omega) ((rightW a b).length - 1) (by omega)
      rw [show (rightW a b).length - 1 + 1 = (rightW a b).length by omega] at this
      rw [this]
  have := main ((leftW a b).length - 1) (by omega)
  rw [show (leftW a b).length - 1 + 1 = (leftW a b).length by omega] at this
  exact this
theorem specBasis_eq (a b : List Int) (la : a.length ≤ 1099511627776) (lb : b.length ≤ 1099511627776) :
    callX XV 208 [.d (is a), .d (is b)] [] = some (.d (.tup (if fineB a = true ∧ fineB b = true ∧ (basisL a b).length ≤ 60 then [.sl U ((basisL a b).map (ints .sub)), .bool true] else [.sl U [], .bool false])), []) := by
  rw [z_call XV _ _ _ v208 rfl xcode_208 rfl]
  have f1 := fine_eq a la
  have f2 := fine_eq b lb
  cases ha : fineB a with
  | false => rw [ha] at f1; simp [v208, r208_0, r208_1, r208_2, r208_3, r208_4, r208_5, r208_6, r208_8, r208_9, r208_10, d208_12, r208_11, r208_13, r208_14, r208_7, r208_15, r208_16, r208_17, f1]
  | true =>
    rw [ha] at f1
    cases hb : fineB b with
    | false => rw [hb] at f2; simp [v208, r208_0, r208_1, r208_2, r208_3, r208_4, r208_5, r208_6, r208_8, r208_9, r208_10, d208_12, r208_11, r208_13, r208_14, r208_7, r208_15, r208_16, r208_17, f1, f2]
    | true =>
      rw [hb] at f2
      have la := fine_len ha
      have lb := fine_len hb
      have ma := maxL_fine ha
      have mb := maxL_fine hb
      have hR : (rightW a b).length ≤ 126 := ways_len _ _ (by omega) (by omega)
      have hL : (leftW a b).length ≤ 126 := ways_len _ _ (by omega) (by omega)
      have hA := allTo_len a b hR (leftW a b).length (Nat.le_refl _)
      have hI := l7All_eq a b ha hb
      rw [← all_same ha hb] at hI
      have hJ := specLeasts_eq (allL a b) (a.length + b.length) (by unfold allL; omega) (by omega) (fun i hi => all_row a b _ _ (rAt_mem hi))
      simp only [lin_208] at hJ
      have eB : leastsTo (allL a b) (allL a b).length = basisL a b := rfl
      rw [eB] at hJ
      generalize allL a b = al at *
      by_cases h60 : (basisL a b).length ≤ 60
      · have h61 : ¬ (60 : Int) < (basisL a b).length := by omega
        generalize basisL a b = bl at *
        simp [v208, r208_0, r208_1, r208_2, r208_3, r208_4, r208_5, r208_6, r208_8, r208_9, r208_10, d208_12, r208_11, r208_13, r208_14, r208_7, r208_15, r208_16, r208_17, f1, f2, hI]
        rw [hJ]
        simp [v208, r208_0, r208_1, r208_2, r208_3, r208_4, r208_5, r208_6, r208_8, r208_9, r208_10, d208_12, r208_11, r208_13, r208_14, r208_7, r208_15, r208_16, r208_17, h60, h61]
      · have h61 : (60 : Int) < (basisL a b).length := by omega
        generalize basisL a b = bl at *
        simp [v208, r208_0, r208_1, r208_2, r208_3, r208_4, r208_5, r208_6, r208_8, r208_9, r208_10, d208_12, r208_11, r208_13, r208_14, r208_7, r208_15, r208_16, r208_17, f1, f2, hI]
        rw [hJ]
        simp [v208, r208_0, r208_1, r208_2, r208_3, r208_4, r208_5, r208_6, r208_8, r208_9, r208_10, d208_12, r208_11, r208_13, r208_14, r208_7, r208_15, r208_16, r208_17, h60, h61]
end Go.Proofs.Ytficfeekkljoeaa.VS
namespace Go.Proofs.Ytficfeekkljoeaa.VS
set_option linter.unusedVariables false
set_option linter.unusedSimpArgs false
/-! ## What is drawn from a seed -/
def seedC (bs : List Int) (pos st : Int) : List AV := [.d (.sl .sub (bs.map (.int .u8))), .d (.int .i64 pos), .d (.int .i64 st)]
theorem bget_set {B : Boxs} {i : Nat} {c : List AV} (h : i < B.length) : bget (B.set i (some c)) i = some c := by simp [bget, h]
theorem bget_lt {B : Boxs} {i : Nat} {c : List AV} (h : bget B i = some c) : i < B.length := by
  rcases Nat.lt_or_ge i B.length with h1 | h1
  · exact h1
  · simp [bget, List.getElem?_eq_none h1] at h
/-- A seed's box behind a draw: its place and state may have turned. -/
def Turned (bs : List Int) (i : Nat) (B B' : Boxs) : Prop := ∃ pos st : Int, (0 ≤ pos ∧ pos ≤ bs.length) ∧ B' = B.set i (some (seedC bs pos st))
def SeedAt (bs : List Int) (i : Nat) (B : Boxs) : Prop := ∃ pos st : Int, (0 ≤ pos ∧ pos ≤ bs.length) ∧ bget B i = some (seedC bs pos st)
theorem Turned.at {bs : List Int} {i : Nat} {B B' : Boxs} (hi : i < B.length) (h : Turned bs i B B') : SeedAt bs i B' := by
  obtain ⟨pos, st, hp, rfl⟩ := h
  exact ⟨pos, st, hp, bget_set hi⟩
theorem Turned.len {bs : List Int} {i : Nat} {B B' : Boxs} (h : Turned bs i B B') : B'.length = B.length := by
  obtain ⟨pos, st, hp, rfl⟩ := h; simp
theorem Turned.trans {bs : List Int} {i : Nat} {B B' B'' : Boxs} (h : Turned bs i B B') (h' : Turned bs i B' B'') : Turned bs i B B'' := by
  obtain ⟨pos, st, hp, rfl⟩ := h
  obtain ⟨pos', st', hp', rfl⟩ := h'
  exact ⟨pos', st', hp', by simp⟩
theorem SeedAt.lt {bs : List Int} {i : Nat} {B : Boxs} (h : SeedAt bs i B) : i < B.length := by
  obtain ⟨_, _, _, h⟩ := h; exact bget_lt h
end Go.Proofs.Ytficfeekkljoeaa.VS
namespace Go.Proofs.Ytficfeekkljoeaa.VS
set_option linter.unusedVariables false
set_option linter.unusedSimpArgs false
/-! ## Drawn lists of numbers -/
@[simp high] theorem clr_bytesE (l : List Int) : (l.map (DV.int .u8)).map DV.clr = l.map (DV.int .u8) := by simp [List.map_map, Function.comp_def]
end Go.Proofs.Ytficfeekkljoeaa.VS
namespace Go.Proofs.Ytficfeekkljoeaa.VS
set_option linter.unusedVariables false
set_option linter.unusedSimpArgs false
/-! ## Drawn sides -/
end Go.Proofs.Ytficfeekkljoeaa.VS
namespace Go.Proofs.Ytficfeekkljoeaa.VS
set_option linter.unusedVariables false
set_option linter.unusedSimpArgs false
/-! ## Sums of what solves solve -/
structure Sol (a b z : List Int) : Prop where
  len : z.length = a.length + b.length
  at_ : ∀ i, 0 ≤ iAt z i ∧ iAt z i ≤ 4
  dot : dotS a z 0 0 a.length = dotS b z a.length 0 b.length
theorem sol_of {a b z : List Int} (ha : fineB a = true) (hb : fineB b = true) (hz : z ∈ basisL a b) : Sol a b z := by
  have la := fine_len ha
  have lb := fine_len hb
  have ma := maxL_fine ha
  have mb := maxL_fine hb
  have h1 : z ∈ allL a b := List.mem_of_mem_take (List.mem_filter.1 hz).1
  unfold allL allTo at h1
  obtain ⟨x, hx, h2⟩ := List.mem_flatMap.1 h1
  unfold sideTo at h2
  obtain ⟨h3, h4⟩ := List.mem_filter.1 h2
  obtain ⟨y, hy, rfl⟩ := List.mem_map.1 h3
  have wx : Way a.length x := way_of la.2 (by omega) (List.mem_of_mem_take hx)
  have wy : Way b.length y := way_of lb.2 (by omega) (List.mem_of_mem_take hy)
  unfold pickB at h4
  rw [solves_way ha hb wx wy] at h4
  simp only [Bool.and_eq_true, decide_eq_true_eq] at h4
  have e1 : dotS a (x ++ y) 0 0 a.length = dotS a x 0 0 a.length := dot_same a _ _ 0 0 _ _ (fun j h1 h2 => by
    have := wx.len
    simp only [Nat.zero_add]
    exact iAt_left x y j (by omega))
  have e2 : dotS b (x ++ y) a.length 0 b.length = dotS b y 0 0 b.length := dot_same b _ _ a.length 0 _ _ (fun j h1 h2 => by
    rw [← wx.len, iAt_right, Nat.zero_add])
  refine ⟨by rw [List.length_append, wx.len, wy.len], fun i => ?_, by rw [e1, e2]; exact h4.2⟩
  by_cases hi : i < x.length
  · rw [iAt_left x y i hi]; exact wx.at_ i
  · obtain ⟨j, rfl⟩ : ∃ j, i = x.length + j := ⟨i - x.length, by omega⟩
    rw [iAt_right]; exact wy.at_ j
end Go.Proofs.Ytficfeekkljoeaa.VS
namespace Go.Proofs.Ytficfeekkljoeaa.VS
set_option linter.unusedVariables false
set_option linter.unusedSimpArgs false
theorem allU_iss (l : List (List Int)) : (iss U l).allUT = true := by
  have h : ∀ l : List (List Int), DV.allUs (l.map (ints U)) = true := by
    intro l
    induction l with
    | nil => rfl
    | cons x r ih =>
      have hx := allU_ints x
      simp only [DV.allUT] at hx
      simp [DV.allUs, ih]
      exact hx
  cases l with
  | nil => rfl
  | cons x r => exact (by simp only [iss, List.map_cons, DV.allUT, DV.allU, decide_true, Bool.true_and] : (iss U (x :: r)).allUT = DV.allUs (ints U x :: r.map (ints U))).trans (h (x :: r))
theorem cntS_sum (ps : List (List Int)) : cntS ps ≤ issSize ps := by
  have h : ∀ (k : Nat), k ≤ ps.length → cntS (ps.take k) ≤ sumW (fun i => (rAt ps i).length) 0 k := by
    intro k
    induction k with
    | zero => intro _; simp [cntS]
    | succ k ih =>
      intro hk
      rw [rTake ps k (by omega), cntS_snoc]
      have := ih (by omega)
      have hs : ∀ (w : Nat → Nat) (a n : Nat), sumW w a (n + 1) = sumW w a n + w (a + n) := by
        intro w a n
        induction n generalizing a with
        | zero => simp [sumW]
        | succ n ih => rw [sumW, ih (a + 1)]; simp [sumW, Nat.add_assoc, Nat.add_comm 1 n]
      rw [hs, Nat.zero_add]; omega
  have := h ps.length (Nat.le_refl _)
  rw [List.take_length] at this
  unfold issSize; omega
end Go.Proofs.Ytficfeekkljoeaa.VS
namespace Go.Proofs.Ytficfeekkljoeaa.VS
set_option linter.unusedVariables false
set_option linter.unusedSimpArgs false
/-! ## The law: both Basis agree in all -/
structure ThI (l : List Int) (b : Nat) (y : AV) (R R' : Boxs) (k K : Nat) : Prop where
  th : (DV.sl .sub (l.map (.int .i64))).thaw b = (y, R)
  cl : y.clr = y
  len : R'.length = R.length
  frz : ∀ P Q : Boxs, P.length = b → AV.frz (P ++ (R ++ Q)) y = some (is l)
  mark : ∀ P Q : Boxs, P.length = b → callX XV 344 [y, .d (.int .i64 (k : Int))] (P ++ (R ++ Q)) = some (.d (.int .i64 (K : Int)), P ++ (R' ++ Q))
theorem thI_of (l : List Int) (hl : l.length ≤ 1099511627776) (b k : Nat) (hk : k ≤ 1000000000000000) : ∃ y R R', ThI l b y R R' k (k + l.length) :=
  ⟨tI b l, bI l, bI (mk l.length k), thaw_ints b l, clr_tI b l, bI_same _ _ (mk_len _ _),
    fun P Q hP => by subst hP; rw [← List.append_assoc]; exact frz_tI P Q l,
    fun P Q hP => by subst hP; rw [← List.append_assoc, ← List.append_assoc]; exact markInts_eq l k (by omega) P Q⟩
structure ThII (ps : List (List Int)) (b : Nat) (y : AV) (R R' : Boxs) (k K : Nat) : Prop where
  th : ∀ c : Bool, (DV.tup [iss .sub ps, .bool c]).thaw b = (.ag true [y, .d (.bool c)], R)
  cl : y.clr = y
  len : R'.length = R.length
  frz : ∀ P Q : Boxs, P.length = b → AV.frz (P ++ (R ++ Q)) y = some (iss .sub ps)
  mark : ∀ P Q : Boxs, P.length = b → callX XV 352 [y, .d (.int .i64 (k : Int))] (P ++ (R ++ Q)) = some (.d (.int .i64 (K : Int)), P ++ (R' ++ Q))
  held : ∀ P Q : Boxs, P.length = b → callX XV 356 [y, .d (.int .i64 (k : Int))] (P ++ (R' ++ Q)) = some (.d (.int .i64 (K : Int)), P ++ (R' ++ Q))
theorem thII_of (ps : List (List Int)) (hl : ps.length ≤ 1099511627776) (b k : Nat) (hk : k + cntS ps ≤ 4611686018427387904) : ∃ y R R', ThII ps b y R R' k (k + cntS ps) := by
  refine ⟨tS b ps, bS b ps, if ps = [] then [] else ibs (mkS ps k) ++ [some (iCells b ps)], fun c => ?_, clr_tS b ps, ?_, fun P Q hP => ?_, fun P Q hP => ?_, fun P Q hP => ?_⟩
  · have hx := thaw_iss b ps
    have e : thawAll b [iss .sub ps, .bool c] = ([tS b ps, .d (.bool c)], bS b ps ++ []) := by
      have h1 : (iss .sub ps).thaw b = thawOne b (iss .sub ps) := rfl
      rw [h1] at hx
      unfold thawAll
      simp only [hx]
      rfl
    show (AV.ag true (thawAll b [iss .sub ps, .bool c]).1, (thawAll b [iss .sub ps, .bool c]).2) = _
    rw [e, List.append_nil]
  · unfold bS; split <;> simp [mkS_ibs]
  · subst hP; rw [← List.append_assoc]; exact frz_tS ps P Q
  · subst hP; rw [← List.append_assoc, ← List.append_assoc]; exact markIss_eq ps k hl hk P Q
  · subst hP; rw [← List.append_assoc]; exact heldIss_eq ps k hl hk P Q
theorem allU_tup (ps : List (List Int)) (c : Bool) : (DV.tup [iss U ps, .bool c]).allUT = true := by
  have h := allU_iss ps
  have h2 : (iss U ps).allU = true := h
  show DV.allUs [iss U ps, .bool c] = true
  rw [DV.allUs, DV.allUs, DV.allUs, h2]; rfl
theorem clrs2 (x y : AV) : AV.clrs [x, y] = [x.clr, y.clr] := by simp only [AV.clrs]
theorem FnExactBasis_x (a : List Int) (ha : a.length ≤ maxLen) (hao : ∀ n, n ∈ a → -9223372036854775808 ≤ n ∧ n ≤ 9223372036854775807) (b : List Int) (hb : b.length ≤ maxLen) (hbo : ∀ n, n ∈ b → -9223372036854775808 ≤ n ∧ n ≤ 9223372036854775807) :
    ∃ B, callX XV 355 [.d (is a), .d (is b)] [] = some (.d (.bool true), B) := by
  rw [z_call XV _ _ _ v355 rfl xcode_355 rfl]
  by_cases c0 : (1048576 : Int) < a.length
  · simp [v355, r355_0, r355_1, r355_2, r355_3, r355_4, r355_5, r355_6, r355_7, r355_8, r355_9, r355_10, r355_11, r355_12, r355_13, r355_14, r355_15, r355_16, r355_17, r355_18, r355_19, r355_20, r355_21, r355_22, r355_23, r355_24, r355_25, r355_26, r355_27, r355_28, r355_29, r355_30, r355_31, r355_32, r355_33, r355_34, r355_35, r355_36, r355_37, c0]
  by_cases c1 : (1048576 : Int) < b.length
  · simp [v355, r355_0, r355_1, r355_2, r355_3, r355_4, r355_5, r355_6, r355_7, r355_8, r355_9, r355_10, r355_11, r355_12, r355_13, r355_14, r355_15, r355_16, r355_17, r355_18, r355_19, r355_20, r355_21, r355_22, r355_23, r355_24, r355_25, r355_26, r355_27, r355_28, r355_29, r355_30, r355_31, r355_32, r355_33, r355_34, r355_35, r355_36, r355_37, c0, c1]
  have la : a.length ≤ 1099511627776 := by omega
  have lb : b.length ≤ 1099511627776 := by omega
  obtain ⟨bl, ok, hlen, hrows, b1, b2⟩ : ∃ (bl : List (List Int)) (ok : Bool), bl.length ≤ 60 ∧ (∀ i, i < bl.length → (rAt bl i).length ≤ 10) ∧ callX XV 207 [.d (is a), .d (is b)] [] = some (.d (.tup [iss U bl, .bool ok]), []) ∧ callX XV 208 [.d (is a), .d (is b)] [] = some (.d (.tup [.sl U (bl.map (ints .sub)), .bool ok]), []) := by
    have b1 := implBasis_eq a b la lb
    have b2 := specBasis_eq a b la lb
    by_cases hok : fineB a = true ∧ fineB b = true ∧ (basisL a b).length ≤ 60
    · rw [if_pos hok] at b1 b2
      refine ⟨basisL a b, true, hok.2.2, fun i hi => ?_, b1, b2⟩
      have := (sol_of hok.1 hok.2.1 (rAt_mem hi)).len
      have := fine_len hok.1
      have := fine_len hok.2.1
      omega
    · rw [if_neg hok] at b1 b2
      exact ⟨[], false, by simp, fun i hi => by simp at hi, b1, b2⟩
  have hcnt : cntS bl ≤ 1000000 := by
    have h1 := cntS_sum bl
    have h2 : issSize bl ≤ 1000000 := by
      unfold issSize
      have : ∀ n i, sumW (fun j => (rAt bl j).length) i n ≤ 10 * n := by
        intro n
        induction n with
        | zero => intro i; simp [sumW]
        | succ n ih =>
          intro i
          have h3 := ih (i + 1)
          have h4 : (rAt bl i).length ≤ 10 := by
            by_cases hi : i < bl.length
            · exact hrows i hi
            · simp [rAt, List.getElem?_eq_none (Nat.le_of_not_lt hi)]
          simp only [sumW]; omega
      have := this bl.length 0
      omega
    omega
  have ta := toIntS_eq a la
  have tb := toIntS_eq b lb
  have ea := eqIntS_same a (by omega)
  have eb := eqIntS_same b (by omega)
  have ei := eqIntSS_self bl (by omega) (fun i hi => by have := hrows i hi; omega)
  have ua := allU_ints a
  have ub := allU_ints b
  have ut := allU_tup bl ok
  have ubool := allU_bool true
  obtain ⟨y1, R1, R1', H1⟩ := thI_of a la 0 1 (by omega)
  obtain ⟨y2, R2, R2', H2⟩ := thI_of b lb R1.length (1 + a.length) (by omega)
  obtain ⟨y3, R3, R3', H3⟩ := thII_of bl (by omega) (R1.length + R2.length) 1 (by omega)
  have k1 : ¬ (((1 + a.length : Nat) : Int) < 0) := by omega
  have k2 : ¬ (((1 + a.length + b.length : Nat) : Int) < 0) := by omega
  have k3 : ¬ (((1 + cntS bl : Nat) : Int) < 0) := by omega
  generalize 1 + a.length + b.length = K2 at *
  generalize 1 + a.length = K1 at *
  generalize 1 + cntS bl = K3 at *
  have n1 := H1.len
  have n2 := H2.len
  have x1 := H1.th
  have x2 := H2.th
  have x3 := H3.th ok
  have l1 := H1.cl
  have l2 := H2.cl
  have l3 := H3.cl
  have f1 := fun Q : Boxs => H1.frz [] Q rfl
  have f1e := H1.frz [] [] rfl
  have f2 := fun Q : Boxs => H2.frz R1 Q rfl
  have f2e := H2.frz R1 [] rfl
  have f3 := H3.frz (R1 ++ R2) [] (by simp)
  have f3' := H3.frz (R1' ++ R2') [] (by simp [n1, n2])
  have m1 := fun Q : Boxs => H1.mark [] Q rfl
  have m2 := fun Q : Boxs => H2.mark R1' Q n1
  have m3 := H3.mark (R1' ++ R2') [] (by simp [n1, n2])
  have h3 := H3.held (R1' ++ R2') [] (by simp [n1, n2])
  simp only [List.nil_append, List.append_nil, List.append_assoc, Int.natCast_one] at f1 f1e f2 f2e f3 f3' m1 m2 m3 h3
  simp only [is, ints_eq] at *
  simp [v355, r355_0, r355_1, r355_2, r355_3, r355_4, r355_5, r355_6, r355_7, r355_8, r355_9, r355_10, r355_11, r355_12, r355_13, r355_14, r355_15, r355_16, r355_17, r355_18, r355_19, r355_20, r355_21, r355_22, r355_23, r355_24, r355_25, r355_26, r355_27, r355_28, r355_29, r355_30, r355_31, r355_32, r355_33, r355_34, r355_35, r355_36, r355_37, c0, c1, b1, b2, ta, tb, ea, eb, ei, ua, ub, ut, ubool, x1, x2, x3, l1, l2, l3, f1, f1e, f2, f2e, f3, f3', m1, m2, m3, h3, k1, k2, k3, clrs2]
end Go.Proofs.Ytficfeekkljoeaa.VS
namespace Go.Proofs.Ytficfeekkljoeaa.VS
set_option linter.unusedVariables false
set_option linter.unusedSimpArgs false
/-! ## From a law's arguments to values without names -/
mutual
def TT.erase : TT → T
  | .node f v g ks => .node f v (TT.erases ks)
def TT.erases : List TT → List T
  | [] => []
  | t :: r => t.erase :: TT.erases r
end
mutual
theorem TT.clr_cells : ∀ t : TT, DV.clrs t.cells = [.int .i64 t.erase.f, .int .i64 t.erase.v, terms .sub t.erase.kids]
  | .node f v g ks => by
    simp only [TT.cells, DV.clrs, DV.clr, TT.erase, T.f_node, T.v_node, T.kids_node, terms]
    rw [TT.clr_encs ks]
theorem TT.clr_encs : ∀ l : List TT, DV.clrs (TT.encs l) = (TT.erases l).map (T.enc .sub)
  | [] => by simp [TT.encs, DV.clrs, TT.erases]
  | t :: r => by
    simp only [TT.encs, DV.clrs, DV.clr, TT.erases, List.map_cons]
    rw [TT.clr_cells t, TT.clr_encs r, T.enc_eq]
end
theorem TT.clr_enc (t : TT) : t.enc.clr = t.erase.enc .sub := by
  simp only [TT.enc, DV.clr]
  rw [TT.clr_cells, T.enc_eq]
theorem clr_ints (g : Tag) (l : List Int) : (ints g l).clr = .sl .sub (l.map (.int .i64)) := by
  simp only [ints, clr_sl, List.map_map, Function.comp_def, clr_int]
theorem plain_of_X (hX : XOK XV) {k : Nat} {vs : List DV} (h : ∃ B, callX XV k ((DV.clrs vs).map .d) [] = some (.d (.bool true), B)) : ∃ A B, callV E [] k (vs.map .d) [] Ids.none = some ⟨.d (.bool true), A, B⟩ := by
  obtain ⟨B, h⟩ := h
  obtain ⟨u, A, Bv, h1, h2⟩ := law_of_X hX (DV.clrs_clrs vs) (DV.clrs_fits vs) (d := .bool true) (by simp [DV.clr]) h
  simp only [DV.fit] at h2; subst h2
  exact ⟨A, Bv, h1⟩
theorem args1 {P : Program} {a : TypeId} : ∀ {xs : List (List DV)}, Args P [a] xs → ∃ x, xs = [x]
  | [x], _ => ⟨x, rfl⟩
  | [], h => h.elim
  | _ :: _ :: _, h => h.2.elim
theorem args2 {P : Program} {a b : TypeId} : ∀ {xs : List (List DV)}, Args P [a, b] xs → ∃ x y, xs = [x, y]
  | x :: r, h => by obtain ⟨y, rfl⟩ := args1 h.2; exact ⟨x, y, rfl⟩
end Go.Proofs.Ytficfeekkljoeaa.VS
namespace Go.Proofs.Ytficfeekkljoeaa.VS
set_option linter.unusedVariables false
set_option linter.unusedSimpArgs false
/-- A literal. -/
structure L where
  p : Bool
  a : T
  b : T
def L.enc (g : Tag) (x : L) : DV := .agg [.bool x.p, .int .i64 x.a.f, .int .i64 x.a.v, terms g x.a.kids, .int .i64 x.b.f, .int .i64 x.b.v, terms g x.b.kids]
def L.ok (x : L) : Prop := x.a.ok ∧ x.b.ok
@[simp] theorem L.cells_enc (g : Tag) (x : L) : (x.enc g).cells = [.bool x.p, .int .i64 x.a.f, .int .i64 x.a.v, terms g x.a.kids, .int .i64 x.b.f, .int .i64 x.b.v, terms g x.b.kids] := rfl
@[simp] theorem L.cellsA_enc (g : Tag) (x : L) : (AV.d (x.enc g)).cells = [.d (.bool x.p), .d (.int .i64 x.a.f), .d (.int .i64 x.a.v), .d (terms g x.a.kids), .d (.int .i64 x.b.f), .d (.int .i64 x.b.v), .d (terms g x.b.kids)] := rfl
@[simp] theorem L.isCell_enc (g : Tag) (x : L) : (x.enc g).isCell = false := rfl
@[simp] theorem L.clr_enc (g : Tag) (x : L) : (x.enc g).clr = x.enc .sub := by
  simp only [L.enc, DV.clr, DV.clrs, terms, DV.clrs_map, clr_terms]
theorem L.agg_enc (g : Tag) (x : L) : DV.agg [.bool x.p, .int .i64 x.a.f, .int .i64 x.a.v, terms g x.a.kids, .int .i64 x.b.f, .int .i64 x.b.v, terms g x.b.kids] = x.enc g := rfl
def L.cmp (x y : L) : Int := if !x.p && y.p then -1 else if x.p && !y.p then 1 else if T.cmp x.a y.a ≠ 0 then T.cmp x.a y.a else T.cmp x.b y.b
def L.same (x y : L) : Bool := x.p == y.p && (T.cmp x.a y.a == 0) && (T.cmp x.b y.b == 0)
end Go.Proofs.Ytficfeekkljoeaa.VS
namespace Go.Proofs.Ytficfeekkljoeaa.VS
set_option linter.unusedVariables false
set_option linter.unusedSimpArgs false
end Go.Proofs.Ytficfeekkljoeaa.VS
namespace Go.Proofs.Ytficfeekkljoeaa.VS
set_option linter.unusedVariables false
set_option linter.unusedSimpArgs false
end Go.Proofs.Ytficfeekkljoeaa.VS
namespace Go.Proofs.Ytficfeekkljoeaa.VS
set_option linter.unusedVariables false
set_option linter.unusedSimpArgs false
def headBad (l : List SymL) (f v : Int) (n : Nat) : Bool :=
  if symIn l f = true then
    if v = 0 then (if (symAt l f.toNat).ac = true then decide ((n : Int) < 2) else !decide ((n : Int) = (symAt l f.toNat).arity))
    else true
  else true
/-- A Kid that may not stand there, if it is right by itself. -/
def outOf (l : List SymL) (f : Int) (ks : List T) (i : Nat) : Bool :=
  if (symAt l f.toNat).ac = true then (if (tAt ks i).f = f then true else if i = 0 then false else decide (T.cmp (tAt ks i) (tAt ks (i - 1)) < 0)) else false
mutual
def T.form (l : List SymL) : T → Bool
  | .node f v ks =>
    if f = -1 then inB v 0 99 && decide (ks.length = 0)
    else if headBad l f v ks.length = true then false
    else (findAt (fun i => !((T.forms l ks)[i]?).getD false || outOf l f ks i) ks.length 0).isNone
def T.forms (l : List SymL) : List T → List Bool
  | [] => []
  | t :: r => T.form l t :: T.forms l r
end
end Go.Proofs.Ytficfeekkljoeaa.VS
namespace Go.Proofs.Ytficfeekkljoeaa.VS
set_option linter.unusedVariables false
set_option linter.unusedSimpArgs false
/-! ## Substitutions -/
structure Bd where
  v : Int
  t : T
def Bd.enc (g : Tag) (b : Bd) : DV := .agg [.int .i64 b.v, .int .i64 b.t.f, .int .i64 b.t.v, terms g b.t.kids]
def Bd.ok (b : Bd) : Prop := (-9223372036854775808 ≤ b.v ∧ b.v ≤ 9223372036854775807) ∧ b.t.ok
abbrev binds (g : Tag) (l : List Bd) : DV := .sl g (l.map (Bd.enc g))
@[simp] theorem Bd.cells_enc (g : Tag) (x : Bd) : (x.enc g).cells = [.int .i64 x.v, .int .i64 x.t.f, .int .i64 x.t.v, terms g x.t.kids] := rfl
@[simp] theorem Bd.cellsA_enc (g : Tag) (x : Bd) : (AV.d (x.enc g)).cells = [.d (.int .i64 x.v), .d (.int .i64 x.t.f), .d (.int .i64 x.t.v), .d (terms g x.t.kids)] := rfl
@[simp] theorem Bd.isCell_enc (g : Tag) (x : Bd) : (x.enc g).isCell = false := rfl
@[simp] theorem Bd.isAgg_enc (g : Tag) (x : Bd) : isAgg (x.enc g) = true := rfl
@[simp] theorem Bd.clr_enc (g : Tag) (x : Bd) : (x.enc g).clr = x.enc .sub := by
  simp only [Bd.enc, DV.clr, DV.clrs, terms, DV.clrs_map, clr_terms]
@[simp high] theorem Bd.clr_encs (g : Tag) (l : List Bd) : (l.map (Bd.enc g)).map DV.clr = l.map (Bd.enc .sub) := by simp [List.map_map, Function.comp_def]
@[simp] theorem Bd.agg_enc (g : Tag) (x : Bd) : DV.agg [.int .i64 x.v, .int .i64 x.t.f, .int .i64 x.t.v, terms g x.t.kids] = x.enc g := rfl
end Go.Proofs.Ytficfeekkljoeaa.VS
namespace Go.Proofs.Ytficfeekkljoeaa.VS
set_option linter.unusedVariables false
set_option linter.unusedSimpArgs false
variable {P : Program}
/-! ## Literals, and rows of what a type's values are -/
structure LL where
  p : Bool
  a : TT
  b : TT
def LL.cells (x : LL) : List DV := .bool x.p :: (x.a.cells ++ x.b.cells)
def LL.enc (x : LL) : DV := .agg x.cells
def LL.ok (x : LL) : Prop := x.a.ok ∧ x.b.ok
def LL.erase (x : LL) : L := ⟨x.p, x.a.erase, x.b.erase⟩
theorem LL.clr_enc (x : LL) : x.enc.clr = x.erase.enc .sub := by
  have ha := TT.clr_cells x.a
  have hb := TT.clr_cells x.b
  rw [DV.clrs_map] at ha hb
  simp only [LL.enc, LL.cells, DV.clr, DV.clrs_map, List.map_cons, List.map_append, ha, hb, LL.erase, L.enc]
  rfl
/-! Rows of terms -/
/-! Substitutions -/
structure BB where
  v : Int
  t : TT
def BB.cells (x : BB) : List DV := .int .i64 x.v :: x.t.cells
def BB.enc (x : BB) : DV := .agg x.cells
def BB.ok (x : BB) : Prop := (-9223372036854775808 ≤ x.v ∧ x.v ≤ 9223372036854775807) ∧ x.t.ok
def BB.erase (x : BB) : Bd := ⟨x.v, x.t.erase⟩
theorem BB.clr_enc (x : BB) : x.enc.clr = x.erase.enc .sub := by
  have ha := TT.clr_cells x.t
  rw [DV.clrs_map] at ha
  simp only [BB.enc, BB.cells, DV.clr, DV.clrs_map, List.map_cons, ha, BB.erase, Bd.enc]
/-! Bytes -/
end Go.Proofs.Ytficfeekkljoeaa.VS
