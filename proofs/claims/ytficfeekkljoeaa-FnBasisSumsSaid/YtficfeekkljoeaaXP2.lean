/- Contracts of the program's functions on the evaluator without names, and plain lemmas: part 2. -/
import Derived.Test.YtficfeekkljoeaaXP1
namespace Go.Proofs.Ytficfeekkljoeaa.VS
set_option linter.unusedVariables false
set_option linter.unusedSimpArgs false
/-! ## Both find the same -/
theorem ways_facts : ∀ n, n < 6 → ∀ m, m < 5 → (ways n m)[0]? = some (List.replicate n 0) ∧ (∀ r, r ∈ ways n m → ∀ e, e ∈ r → (0 : Int) ≤ e ∧ e ≤ 4) ∧ (∀ r, r ∈ (ways n m).drop 1 → ∃ e, e ∈ r ∧ (0 : Int) < e) := by decide +kernel
theorem iAt_in (r : List Int) (lo hi : Int) (h0 : lo ≤ 0) (h1 : 0 ≤ hi) (h : ∀ e, e ∈ r → lo ≤ e ∧ e ≤ hi) (i : Nat) : lo ≤ iAt r i ∧ iAt r i ≤ hi := by
  unfold iAt
  cases hq : r[i]? with
  | none => simpa using ⟨h0, h1⟩
  | some e => simpa using h e (List.mem_of_getElem? hq)
theorem dot_in (a x : List Int) (o : Nat) (ha : ∀ i, i < a.length → 1 ≤ iAt a i ∧ iAt a i ≤ 4) (hx : ∀ i, 0 ≤ iAt x i ∧ iAt x i ≤ 4) : ∀ (k i : Nat), i + k ≤ a.length → 0 ≤ dotS a x o i k ∧ dotS a x o i k ≤ 16 * k
  | 0, i, _ => by simp [dotS]
  | k + 1, i, h => by
    have ih := dot_in a x o ha hx k (i + 1) (by omega)
    have h1 := ha i (by omega)
    have h2 := hx (o + i)
    have h3 : 0 ≤ iAt a i * iAt x (o + i) := Int.mul_nonneg (by omega) h2.1
    have h4 : iAt a i * iAt x (o + i) ≤ 4 * 4 := Int.mul_le_mul h1.2 h2.2 h2.1 (by omega)
    simp only [dotS]
    push_cast
    omega
theorem dot_pos (a x : List Int) (o : Nat) (ha : ∀ i, i < a.length → 1 ≤ iAt a i ∧ iAt a i ≤ 4) (hx : ∀ i, 0 ≤ iAt x i ∧ iAt x i ≤ 4) : ∀ (k i j : Nat), i + k ≤ a.length → i ≤ j → j < i + k → 0 < iAt x (o + j) → 0 < dotS a x o i k
  | 0, i, j, _, h1, h2, _ => by omega
  | k + 1, i, j, h, h1, h2, h3 => by
    have ih := dot_in a x o ha hx k (i + 1) (by omega)
    have h4 := ha i (by omega)
    have h5 := hx (o + i)
    have h6 : 0 ≤ iAt a i * iAt x (o + i) := Int.mul_nonneg (by omega) h5.1
    simp only [dotS]
    by_cases he : j = i
    · subst he
      have : 0 < iAt a j * iAt x (o + j) := Int.mul_pos (by omega) h3
      omega
    · have := dot_pos a x o ha hx k (i + 1) j (by omega) (by omega) (by omega) h3
      omega
theorem dot_zero (a x : List Int) (o : Nat) : ∀ (k i : Nat), (∀ j, i ≤ j → j < i + k → iAt x (o + j) = 0) → dotS a x o i k = 0
  | 0, i, _ => rfl
  | k + 1, i, h => by
    simp only [dotS]
    rw [h i (Nat.le_refl _) (by omega), dot_zero a x o k (i + 1) (fun j h1 h2 => h j (by omega) (by omega))]
    omega
theorem dot_same (a x y : List Int) (o o' : Nat) : ∀ (k i : Nat), (∀ j, i ≤ j → j < i + k → iAt x (o + j) = iAt y (o' + j)) → dotS a x o i k = dotS a y o' i k
  | 0, i, _ => rfl
  | k + 1, i, h => by
    simp only [dotS]
    rw [h i (Nat.le_refl _) (by omega), dot_same a x y o o' k (i + 1) (fun j h1 h2 => h j (by omega) (by omega))]
theorem iAt_left (x y : List Int) (i : Nat) (h : i < x.length) : iAt (x ++ y) i = iAt x i := by
  unfold iAt; rw [List.getElem?_append_left h]
theorem iAt_right (x y : List Int) (i : Nat) : iAt (x ++ y) (x.length + i) = iAt y i := by
  unfold iAt; rw [List.getElem?_append_right (by omega)]; congr 2; omega
theorem iAt_rep (n i : Nat) : iAt (List.replicate n 0) i = 0 := by
  unfold iAt
  cases hq : (List.replicate n (0 : Int))[i]? with
  | none => rfl
  | some e => have := List.eq_of_mem_replicate (List.mem_of_getElem? hq); simp [this]
theorem W_small {x : Int} (h0 : 0 ≤ x) (h1 : x ≤ 1000) : W x = x := wrap_i64 (by omega) (by omega)
theorem mx_pos (l : List Int) : ∀ (k i : Nat) (m : Int), (0 < m ∨ ∃ j, i ≤ j ∧ j < i + k ∧ 0 < iAt l j) → 0 < mxF l i k m
  | 0, i, m, h => by
    rcases h with h | ⟨j, h1, h2, _⟩
    · exact h
    · omega
  | k + 1, i, m, h => by
    simp only [mxF]
    refine mx_pos l k (i + 1) _ ?_
    rcases h with h | ⟨j, h1, h2, h3⟩
    · left; split <;> omega
    · by_cases he : j = i
      · subst he; left; split <;> omega
      · exact .inr ⟨j, by omega, by omega, h3⟩
theorem mx_zero (l : List Int) (hl : ∀ j, iAt l j = 0) : ∀ (k i : Nat), mxF l i k 0 = 0
  | 0, i => rfl
  | k + 1, i => by simp only [mxF, hl]; exact mx_zero l hl k (i + 1)
structure Way (n : Nat) (x : List Int) : Prop where
  len : x.length = n
  at_ : ∀ i, 0 ≤ iAt x i ∧ iAt x i ≤ 4
theorem way_of {n m : Nat} (hn : n ≤ 5) (hm : m ≤ 4) {x : List Int} (h : x ∈ ways n m) : Way n x :=
  ⟨ways_row n m x h, fun i => iAt_in x 0 4 (by omega) (by omega) (fun e he => (ways_facts n (by omega) m (by omega)).2.1 x h e he) i⟩
theorem way_zero {n m : Nat} (hn : n ≤ 5) (hm : m ≤ 4) : rAt (ways n m) 0 = List.replicate n 0 := by
  have := (ways_facts n (by omega) m (by omega)).1
  simp [rAt, this]
theorem way_pos {n m : Nat} (hn : n ≤ 5) (hm : m ≤ 4) {i : Nat} (hi : i + 1 < (ways n m).length) : ∃ j, j < n ∧ 0 < iAt (rAt (ways n m) (i + 1)) j := by
  have hm' : rAt (ways n m) (i + 1) ∈ (ways n m).drop 1 := by
    rw [← rAt_lt hi]
    exact List.mem_iff_getElem?.2 ⟨i, by rw [List.getElem?_drop, Nat.add_comm 1 i]; simp [hi]⟩
  obtain ⟨e, he, hp⟩ := (ways_facts n (by omega) m (by omega)).2.2 _ hm'
  obtain ⟨j, hj⟩ := List.mem_iff_getElem?.1 he
  have hl := ways_rows n m (i + 1) hi
  refine ⟨j, by rw [← hl]; exact (List.getElem?_eq_some_iff.1 hj).1, ?_⟩
  simp [iAt, hj, hp]
theorem solves_way {a b x y : List Int} (ha : fineB a = true) (hb : fineB b = true) (hx : Way a.length x) (hy : Way b.length y) : solvesB a b (x ++ y) = decide (dotS a x 0 0 a.length = dotS b y 0 0 b.length) := by
  have la := fine_len ha
  have lb := fine_len hb
  have hA := dot_in a x 0 (fun i hi => fine_at ha i hi) hx.at_ a.length 0 (by omega)
  have hB := dot_in b y 0 (fun i hi => fine_at hb i hi) hy.at_ b.length 0 (by omega)
  have e1 : dotS a (x ++ y) 0 0 a.length = dotS a x 0 0 a.length := dot_same a _ _ 0 0 _ _ (fun j h1 h2 => by
    have := hx.len
    simp only [Nat.zero_add]
    exact iAt_left x y j (by omega))
  have e2 : dotS b (x ++ y) a.length 0 b.length = dotS b y 0 0 b.length := dot_same b _ _ a.length 0 _ _ (fun j h1 h2 => by
    rw [← hx.len, iAt_right, Nat.zero_add])
  have hneg : findAt (negAt (x ++ y)) (x ++ y).length 0 = none := by
    cases hq : findAt (negAt (x ++ y)) (x ++ y).length 0 with
    | none => rfl
    | some j =>
      obtain ⟨_, h2, h3⟩ := findAt_lt _ _ _ _ hq
      exfalso
      unfold negAt at h3
      simp only [decide_eq_true_eq] at h3
      by_cases hj : j < x.length
      · rw [iAt_left x y j hj] at h3
        have := (hx.at_ j).1
        omega
      · obtain ⟨i, rfl⟩ : ∃ i, j = x.length + i := ⟨j - x.length, by omega⟩
        rw [iAt_right] at h3
        have := (hy.at_ i).1
        omega
  unfold solvesB
  rw [hneg, e1, e2, W_small hA.1 (by omega), W_small hB.1 (by omega)]
  have hl : (x ++ y).length = a.length + b.length := by rw [List.length_append, hx.len, hy.len]
  simp [hl]
  rw [Bool.eq_iff_iff]; simp
theorem pickS_way {a b x y : List Int} (ha : fineB a = true) (hb : fineB b = true) (hx : Way a.length x) (hy : Way b.length y) : pickS a b x y = decide (dotS a x 0 0 a.length = dotS b y 0 0 b.length) := by
  have la := fine_len ha
  have lb := fine_len hb
  have hA := dot_in a x 0 (fun i hi => fine_at ha i hi) hx.at_ a.length 0 (by omega)
  have hB := dot_in b y 0 (fun i hi => fine_at hb i hi) hy.at_ b.length 0 (by omega)
  unfold pickS
  rw [W_small hA.1 (by omega), W_small hB.1 (by omega), Bool.eq_iff_iff]
  simp only [beq_iff_eq, decide_eq_true_eq]
  constructor <;> exact fun h => h.symm
end Go.Proofs.Ytficfeekkljoeaa.VS
namespace Go.Proofs.Ytficfeekkljoeaa.VS
set_option linter.unusedVariables false
set_option linter.unusedSimpArgs false
/-! ## Both find the same rows; the reference's Basis -/
theorem maxL_pos {x y : List Int} (h0 : 0 < x.length) (h : ∃ j, j < x.length ∧ 0 < iAt x j) : 0 < maxL (x ++ y) := by
  obtain ⟨j, h1, h2⟩ := h
  have hl : (x ++ y).length = x.length + y.length := List.length_append
  unfold maxL
  refine mx_pos _ _ _ _ ?_
  by_cases hj : j = 0
  · subst hj
    left; rw [iAt_left x y 0 h0]; exact h2
  · right
    exact ⟨j, by omega, by omega, by rw [iAt_left x y j h1]; exact h2⟩
theorem all_same {a b : List Int} (ha : fineB a = true) (hb : fineB b = true) : allL a b = allS a b ((leftW a b).length - 1) := by
  have la := fine_len ha
  have lb := fine_len hb
  have ma := maxL_fine ha
  have mb := maxL_fine hb
  have na : (maxL a).toNat ≤ 4 := by omega
  have nb : (maxL b).toNat ≤ 4 := by omega
  have hR0 : 0 < (rightW a b).length := ways_pos _ _
  have hL0 : 0 < (leftW a b).length := ways_pos _ _
  have wL : ∀ i, i < (leftW a b).length → Way a.length (rAt (leftW a b) i) := fun i hi => way_of la.2 nb (rAt_mem hi)
  have wR : ∀ i, i < (rightW a b).length → Way b.length (rAt (rightW a b) i) := fun i hi => way_of lb.2 na (rAt_mem hi)
  have zL : rAt (leftW a b) 0 = List.replicate a.length 0 := way_zero la.2 nb
  have zR : rAt (rightW a b) 0 = List.replicate b.length 0 := way_zero lb.2 na
  have pL : ∀ i, i + 1 < (leftW a b).length → ∃ j, j < a.length ∧ 0 < iAt (rAt (leftW a b) (i + 1)) j := fun i hi => way_pos la.2 nb hi
  have pR : ∀ i, i + 1 < (rightW a b).length → ∃ j, j < b.length ∧ 0 < iAt (rAt (rightW a b) (i + 1)) j := fun i hi => way_pos lb.2 na hi
  have dz : ∀ (c : List Int) (n : Nat), dotS c (List.replicate n 0) 0 0 c.length = 0 := fun c n => dot_zero c _ 0 _ _ (fun j _ _ => iAt_rep _ _)
  -- the left row of 0
  have s0 : ∀ k, k ≤ (rightW a b).length → sideTo a b (rAt (leftW a b) 0) (rightW a b) k = [] := by
    intro k
    induction k with
    | zero => intro _; simp [sideTo]
    | succ k ih =>
      intro hk
      rw [sideTo_succ a b _ _ k (by omega), ih (by omega)]
      have hp : pickB a b (rAt (leftW a b) 0 ++ rAt (rightW a b) k) = false := by
        have hs := solves_way ha hb (wL 0 hL0) (wR k (by omega))
        unfold pickB
        rw [hs, zL, dz]
        cases k with
        | zero =>
          rw [zR]
          have : maxL (List.replicate a.length 0 ++ List.replicate b.length 0) = 0 := by
            rw [List.replicate_append_replicate]
            unfold maxL
            rw [iAt_rep]
            exact mx_zero _ (fun j => iAt_rep _ j) _ _
          rw [this]; rfl
        | succ k =>
          obtain ⟨j, h1, h2⟩ := pR k (by omega)
          have := dot_pos b (rAt (rightW a b) (k + 1)) 0 (fun i hi => fine_at hb i hi) (wR (k + 1) (by omega)).at_ b.length 0 j (by omega) (by omega) (by omega) (by rw [Nat.zero_add]; exact h2)
          have hne : ¬ ((0 : Int) = dotS b (rAt (rightW a b) (k + 1)) 0 0 b.length) := by omega
          simp [hne]
      rw [hp]; rfl
  have s1 : ∀ i, i + 1 < (leftW a b).length → ∀ k, k + 1 ≤ (rightW a b).length → sideTo a b (rAt (leftW a b) (i + 1)) (rightW a b) (k + 1) = sideS a b (rAt (leftW a b) (i + 1)) (rightW a b) k := by
    intro i hi k
    have hw := wL (i + 1) hi
    obtain ⟨j, j1, j2⟩ := pL i hi
    have hd := dot_pos a (rAt (leftW a b) (i + 1)) 0 (fun i hi => fine_at ha i hi) hw.at_ a.length 0 j (by omega) (by omega) (by omega) (by rw [Nat.zero_add]; exact j2)
    have hm : ∀ y, 0 < maxL (rAt (leftW a b) (i + 1) ++ y) := fun y => maxL_pos (by rw [hw.len]; omega) ⟨j, by rw [hw.len]; exact j1, j2⟩
    have hp : ∀ k, k < (rightW a b).length → pickB a b (rAt (leftW a b) (i + 1) ++ rAt (rightW a b) k) = pickS a b (rAt (leftW a b) (i + 1)) (rAt (rightW a b) k) := fun k hk => by
      unfold pickB
      rw [solves_way ha hb hw (wR k hk), pickS_way ha hb hw (wR k hk)]
      simp [hm]
    induction k with
    | zero =>
      intro hk
      rw [sideTo_succ a b _ _ 0 (by omega), hp 0 (by omega), pickS_way ha hb hw (wR 0 (by omega)), zR, dz]
      have hne : ¬ (dotS a (rAt (leftW a b) (i + 1)) 0 0 a.length = 0) := by omega
      simp [hne, sideTo, sideS]
    | succ k ih =>
      intro hk
      rw [sideTo_succ a b _ _ (k + 1) (by omega), ih (by omega), hp (k + 1) (by omega), sideS_succ]
  have main : ∀ k, k + 1 ≤ (leftW a b).length → allTo a b (k + 1) = allS a b k := by
    intro k
    induction k with
    | zero =>
      intro hk
      rw [allTo_succ a b 0 (by omega), s0 _ (Nat.le_refl _)]
      simp [allTo, allS]
    | succ k ih =>
      intro hk
      rw [allTo_succ a b (k + 1) (by omega), ih (by omega), allS_succ]
      have := s1 k (by omega) ((rightW a b).length - 1) (by omega)
      rw [show (rightW a b).length - 1 + 1 = (rightW a b).length by omega] at this
      rw [this]
  have := main ((leftW a b).length - 1) (by omega)
  rw [show (leftW a b).length - 1 + 1 = (leftW a b).length by omega] at this
  exact this
theorem specBasis_eq (a b : List Int) (la : a.length ≤ 1099511627776) (lb : b.length ≤ 1099511627776) :
    callX XV 208 [.d (is a), .d (is b)] [] = some (.d (.tup (if fineB a = true ∧ fineB b = true ∧ (basisL a b).length ≤ 60 then [.sl U ((basisL a b).map (ints .sub)), .bool true] else [.sl U [], .bool false])), []) := by
  rw [z_call XV _ _ _ v208 rfl xcode_208 rfl]
  have f1 := fine_eq a la
  have f2 := fine_eq b lb
  cases ha : fineB a with
  | false => rw [ha] at f1; simp [v208, r208_0, r208_1, r208_2, r208_3, r208_4, r208_5, r208_6, r208_8, r208_9, r208_10, d208_12, r208_11, r208_13, r208_14, r208_7, r208_15, r208_16, r208_17, f1]
  | true =>
    rw [ha] at f1
    cases hb : fineB b with
    | false => rw [hb] at f2; simp [v208, r208_0, r208_1, r208_2, r208_3, r208_4, r208_5, r208_6, r208_8, r208_9, r208_10, d208_12, r208_11, r208_13, r208_14, r208_7, r208_15, r208_16, r208_17, f1, f2]
    | true =>
      rw [hb] at f2
      have la := fine_len ha
      have lb := fine_len hb
      have ma := maxL_fine ha
      have mb := maxL_fine hb
      have hR : (rightW a b).length ≤ 126 := ways_len _ _ (by omega) (by omega)
      have hL : (leftW a b).length ≤ 126 := ways_len _ _ (by omega) (by omega)
      have hA := allTo_len a b hR (leftW a b).length (Nat.le_refl _)
      have hI := l7All_eq a b ha hb
      rw [← all_same ha hb] at hI
      have hJ := specLeasts_eq (allL a b) (a.length + b.length) (by unfold allL; omega) (by omega) (fun i hi => all_row a b _ _ (rAt_mem hi))
      simp only [lin_208] at hJ
      have eB : leastsTo (allL a b) (allL a b).length = basisL a b := rfl
      rw [eB] at hJ
      generalize allL a b = al at *
      by_cases h60 : (basisL a b).length ≤ 60
      · have h61 : ¬ (60 : Int) < (basisL a b).length := by omega
        generalize basisL a b = bl at *
        simp [v208, r208_0, r208_1, r208_2, r208_3, r208_4, r208_5, r208_6, r208_8, r208_9, r208_10, d208_12, r208_11, r208_13, r208_14, r208_7, r208_15, r208_16, r208_17, f1, f2, hI]
        rw [hJ]
        simp [v208, r208_0, r208_1, r208_2, r208_3, r208_4, r208_5, r208_6, r208_8, r208_9, r208_10, d208_12, r208_11, r208_13, r208_14, r208_7, r208_15, r208_16, r208_17, h60, h61]
      · have h61 : (60 : Int) < (basisL a b).length := by omega
        generalize basisL a b = bl at *
        simp [v208, r208_0, r208_1, r208_2, r208_3, r208_4, r208_5, r208_6, r208_8, r208_9, r208_10, d208_12, r208_11, r208_13, r208_14, r208_7, r208_15, r208_16, r208_17, f1, f2, hI]
        rw [hJ]
        simp [v208, r208_0, r208_1, r208_2, r208_3, r208_4, r208_5, r208_6, r208_8, r208_9, r208_10, d208_12, r208_11, r208_13, r208_14, r208_7, r208_15, r208_16, r208_17, h60, h61]
end Go.Proofs.Ytficfeekkljoeaa.VS
namespace Go.Proofs.Ytficfeekkljoeaa.VS
set_option linter.unusedVariables false
set_option linter.unusedSimpArgs false
/-! ## What is drawn from a seed -/
def and255 (x : Int) : Int := IntKind.i64.wrap ((BitVec.ofInt 64 x &&& BitVec.ofInt 64 255).toNat : Int)
def xorI (x y : Int) : Int := IntKind.i64.wrap ((BitVec.ofInt 64 x ^^^ BitVec.ofInt 64 y).toNat : Int)
theorem evInt_and255 (x : Int) : evInt .and .i64 x 255 = some (.int .i64 (and255 x)) := rfl
theorem evInt_xor (x y : Int) : evInt .xor .i64 x y = some (.int .i64 (xorI x y)) := rfl
theorem evInt_shr33 (x : Int) : evInt .shr .i64 x 33 = some (.int .i64 (x.fdiv 8589934592)) := rfl
theorem evInt_shr45 (x : Int) : evInt .shr .i64 x 45 = some (.int .i64 (x.fdiv 35184372088832)) := rfl
theorem and255_in (x : Int) : 0 ≤ and255 x ∧ and255 x ≤ 255 := by
  have h : (BitVec.ofInt 64 x &&& BitVec.ofInt 64 255).toNat ≤ 255 := by
    rw [BitVec.toNat_and]
    exact Nat.le_trans Nat.and_le_right (by decide)
  unfold and255
  generalize (BitVec.ofInt 64 x &&& BitVec.ofInt 64 255).toNat = n at *
  rw [wrap_i64 (by omega) (by omega)]
  omega
def seedC (bs : List Int) (pos st : Int) : List AV := [.d (.sl .sub (bs.map (.int .u8))), .d (.int .i64 pos), .d (.int .i64 st)]
theorem bget_set {B : Boxs} {i : Nat} {c : List AV} (h : i < B.length) : bget (B.set i (some c)) i = some c := by simp [bget, h]
theorem bget_lt {B : Boxs} {i : Nat} {c : List AV} (h : bget B i = some c) : i < B.length := by
  rcases Nat.lt_or_ge i B.length with h1 | h1
  · exact h1
  · simp [bget, List.getElem?_eq_none h1] at h
theorem bget_iff {B : Boxs} {i : Nat} {c : List AV} (h : bget B i = some c) : B[i]? = some (some c) := by
  unfold bget at h
  split at h
  · rename_i c' hc; rw [hc]; simpa using h
  · simp at h
theorem l1Byte_ok (bs : List Int) (hl : bs.length ≤ 1099511627776) (B : Boxs) (i : Nat) (pos st : Int) (hB : bget B i = some (seedC bs pos st)) (hp : 0 ≤ pos ∧ pos ≤ bs.length) :
    ∃ b pos' st' : Int, (0 ≤ b ∧ b ≤ 255) ∧ (0 ≤ pos' ∧ pos' ≤ bs.length) ∧ callX XV 165 [.ptr i 0] B = some (.d (.int .i64 b), B.set i (some (seedC bs pos' st'))) := by
  have hi := bget_lt hB
  have hnl : ¬ B.length ≤ i := by omega
  have htake : ∀ c : Option (List AV), List.take B.length (B.set i c) = B.set i c := fun c => List.take_of_length_le (by simp)
  have hset : ∀ c : Option (List AV), (B.set i c)[i]? = some c := fun c => by simp [hi]
  rw [z_call XV _ _ _ v165 rfl xcode_165 rfl]
  have hB := bget_iff hB
  unfold seedC at hB ⊢
  by_cases c : pos < bs.length
  · have hw : IntKind.i64.wrap (pos + 1) = pos + 1 := wrap_i64 (by omega) (by omega)
    have hlt : pos.toNat < bs.length := by omega
    refine ⟨_, _, _, ?_, ?_, by simp [v165, r165_0, r165_1, d165_2, d165_3, d165_4, r165_5, r165_6, loadBox, hB, hset, splice, evInt_and255, evInt_xor, evInt_shr33, evInt_shr45, evBin_shr, hnl, c, hp, hlt, hw, cut, isCell_int, isCell_sl, isCellA_d, safe_d, xstoreBox, htake]; exact ⟨rfl, rfl⟩⟩
    · exact and255_in _
    · exact ⟨by omega, by omega⟩
  · refine ⟨_, _, _, ?_, ?_, by simp [v165, r165_0, r165_1, d165_2, d165_3, d165_4, r165_5, r165_6, loadBox, hB, hset, splice, evInt_and255, evInt_xor, evInt_shr33, evInt_shr45, evBin_shr, hnl, c, cut, isCell_int, isCell_sl, isCellA_d, safe_d, xstoreBox, htake]; exact ⟨rfl, rfl⟩⟩
    · exact and255_in _
    · exact hp
/-- A seed's box behind a draw: its place and state may have turned. -/
def Turned (bs : List Int) (i : Nat) (B B' : Boxs) : Prop := ∃ pos st : Int, (0 ≤ pos ∧ pos ≤ bs.length) ∧ B' = B.set i (some (seedC bs pos st))
def SeedAt (bs : List Int) (i : Nat) (B : Boxs) : Prop := ∃ pos st : Int, (0 ≤ pos ∧ pos ≤ bs.length) ∧ bget B i = some (seedC bs pos st)
theorem Turned.at {bs : List Int} {i : Nat} {B B' : Boxs} (hi : i < B.length) (h : Turned bs i B B') : SeedAt bs i B' := by
  obtain ⟨pos, st, hp, rfl⟩ := h
  exact ⟨pos, st, hp, bget_set hi⟩
theorem Turned.len {bs : List Int} {i : Nat} {B B' : Boxs} (h : Turned bs i B B') : B'.length = B.length := by
  obtain ⟨pos, st, hp, rfl⟩ := h; simp
theorem Turned.trans {bs : List Int} {i : Nat} {B B' B'' : Boxs} (h : Turned bs i B B') (h' : Turned bs i B' B'') : Turned bs i B B'' := by
  obtain ⟨pos, st, hp, rfl⟩ := h
  obtain ⟨pos', st', hp', rfl⟩ := h'
  exact ⟨pos', st', hp', by simp⟩
theorem SeedAt.lt {bs : List Int} {i : Nat} {B : Boxs} (h : SeedAt bs i B) : i < B.length := by
  obtain ⟨_, _, _, h⟩ := h; exact bget_lt h
theorem l1Byte_at (bs : List Int) (hl : bs.length ≤ 1099511627776) (B : Boxs) (i : Nat) (h : SeedAt bs i B) : ∃ (b : Int) (B' : Boxs), (0 ≤ b ∧ b ≤ 255) ∧ Turned bs i B B' ∧ callX XV 165 [.ptr i 0] B = some (.d (.int .i64 b), B') := by
  obtain ⟨pos, st, hp, hB⟩ := h
  obtain ⟨b, pos', st', h1, h2, h3⟩ := l1Byte_ok bs hl B i pos st hB hp
  exact ⟨b, _, h1, ⟨pos', st', h2, rfl⟩, h3⟩
theorem evInt_rem' (x n : Int) (h : n ≠ 0) : evInt .rem .i64 x n = some (.int .i64 (x.tmod n)) := by simp [evInt, h]
theorem l1Below_at (bs : List Int) (hl : bs.length ≤ 1099511627776) (B : Boxs) (i : Nat) (h : SeedAt bs i B) (n : Int) (hn : 0 < n) (hn2 : n ≤ 256) : ∃ (r : Int) (B' : Boxs), (0 ≤ r ∧ r < n) ∧ Turned bs i B B' ∧ callX XV 159 [.ptr i 0, .d (.int .i64 n)] B = some (.d (.int .i64 r), B') := by
  obtain ⟨b, B', hb, hT, hc⟩ := l1Byte_at bs hl B i h
  have hi := h.lt
  have hlen := hT.len
  have hm : b.tmod n = b % n := Int.tmod_eq_emod_of_nonneg hb.1
  have hr := evInt_rem' b n (by omega)
  have htake : List.take B.length B' = B' := List.take_of_length_le (by omega)
  refine ⟨b % n, B', ⟨Int.emod_nonneg _ (by omega), Int.emod_lt_of_pos _ hn⟩, hT, ?_⟩
  rw [z_call XV _ _ _ v159 rfl xcode_159 rfl]
  have c1 : ¬ n ≤ 0 := by omega
  simp [v159, r159_0, r159_1, r159_2, r159_3, r159_4, r159_5, r159_6, r159_7, r159_8, r159_9, c1, hn2, hc, hr, hm, htake, hi]
theorem l1PickInt_at (bs : List Int) (hl : bs.length ≤ 1099511627776) (B : Boxs) (i : Nat) (h : SeedAt bs i B) (l : List Int) (h0 : 0 < l.length) (h1 : l.length ≤ 256) : ∃ (j : Nat) (hj : j < l.length) (B' : Boxs), Turned bs i B B' ∧ callX XV 160 [.ptr i 0, .d (.sl .sub (l.map (.int .i64)))] B = some (.d (.int .i64 l[j]), B') := by
  obtain ⟨r, B', hr, hT, hc⟩ := l1Below_at bs hl B i h l.length (by omega) (by omega)
  have hi := h.lt
  have hlen := hT.len
  have htake : List.take B.length B' = B' := List.take_of_length_le (by omega)
  refine ⟨r.toNat, by omega, B', hT, ?_⟩
  rw [z_call XV _ _ _ v160 rfl xcode_160 rfl]
  have hlt : r.toNat < l.length := by omega
  simp [v160, r160_0, r160_1, hc, hr, hlt, htake, hi, cut]
def andM (x : Int) : Int := IntKind.i64.wrap ((BitVec.ofInt 64 x &&& BitVec.ofInt 64 1073741823).toNat : Int)
theorem evInt_andM (x : Int) : evInt .and .i64 x 1073741823 = some (.int .i64 (andM x)) := rfl
def stepN' (bs : List Int) (s : Int) (i : Nat) : Int ⊕ Unit := .inl (andM (IntKind.i64.wrap (IntKind.i64.wrap (IntKind.i64.wrap (s * 131) + IntKind.i64.wrap ((bs[i]?).getD 0)) + 7)))
theorem runN_inl {β : Type} (f : β → Nat → β) : ∀ (k : Nat) (a : β) (i : Nat), ∃ b, runN (fun a i => (.inl (f a i) : β ⊕ Unit)) k a i = .inl b
  | 0, a, i => ⟨a, rfl⟩
  | k + 1, a, i => by simp only [runN]; exact runN_inl f k _ _
theorem l1New_eq (bs : List Int) (hl : bs.length ≤ 1099511627776) (B : Boxs) : ∃ st : Int, callX XV 156 [.d (.sl .sub (bs.map (.int .u8)))] B = some (.ptr B.length 0, B ++ [some (seedC bs 0 st)]) := by
  have hn : min bs.length 4000 ≤ bs.length := Nat.min_le_left _ _
  have h := loopX_upto (X := XV) (T := XV.lin 156) (L := B.length) (live := [0, 3, 4]) (b := b156_0) (n := min bs.length 4000) (γ := Unit) (st := fun (s : Int) i => ⟨[(0, .d (.sl .sub (bs.map (.int .u8)))), (3, .d (.int .i64 s)), (4, .d (.int .i64 i))], B⟩) (step := stepN' bs)
    (F := fun s => (.exit 0, ⟨[(0, .d (.sl .sub (bs.map (.int .u8)))), (3, .d (.int .i64 s)), (4, .d (.int .i64 (min bs.length 4000 : Nat))), (15, .d (.bool false))], B⟩)) (R := fun _ => (.ret, ⟨[], B⟩))
    (fun s => ⟨by simp, by
      by_cases c : bs.length ≤ 4000
      · rw [Nat.min_eq_left c]; simp [b156_0, r156_0, r156_1, r156_2, r156_3, r156_5, r156_4, r156_6]
      · have c1 : (4000 : Int) < bs.length := by omega
        rw [Nat.min_eq_right (by omega)]; simp [b156_0, r156_0, r156_1, r156_2, r156_3, r156_5, r156_4, r156_6, c1, show ¬ bs.length ≤ 4000 from c]⟩)
    (fun s i hi => by
      have hw := wrap_succ (n := i) (by omega)
      have h1 : i < bs.length := by omega
      have h2 : (i : Int) < 4000 := by omega
      refine ⟨_, by simp [b156_0, r156_0, r156_1, r156_2, r156_3, r156_5, r156_4, r156_6, h1, h2, hw, cut, evInt_andM]; rfl, by simp [xheadOf, safeRegs, h1]⟩)
    (min bs.length 4000) (IntKind.i64.wrap (27064 + bs.length)) 0 ⟨[(0, .d (.sl .sub (bs.map (.int .u8)))), (3, .d (.int .i64 (IntKind.i64.wrap (27064 + bs.length)))), (4, .d (.int .i64 0))], B⟩ (by omega) (by simp [xheadOf, safeRegs])
  obtain ⟨st, hst⟩ := runN_inl (fun (s : Int) (i : Nat) => andM (IntKind.i64.wrap (IntKind.i64.wrap (IntKind.i64.wrap (s * 131) + IntKind.i64.wrap ((bs[i]?).getD 0)) + 7))) (min bs.length 4000) (IntKind.i64.wrap (27064 + bs.length)) 0
  rw [show stepN' bs = fun s i => (.inl (andM (IntKind.i64.wrap (IntKind.i64.wrap (IntKind.i64.wrap (s * 131) + IntKind.i64.wrap ((bs[i]?).getD 0)) + 7))) : Int ⊕ Unit) from rfl, hst] at h
  refine ⟨st, ?_⟩
  rw [z_call XV _ _ _ v156 rfl xcode_156 rfl]
  simp [v156, r156_0, r156_1, r156_2]
  simp only [lin_156] at h
  rw [h]
  simp [r156_6, seedC, isCell_int, isCell_sl, isCellA_d, safe_d, splice, loadBox]
end Go.Proofs.Ytficfeekkljoeaa.VS
namespace Go.Proofs.Ytficfeekkljoeaa.VS
set_option linter.unusedVariables false
set_option linter.unusedSimpArgs false
/-! ## Drawn lists of numbers -/
@[simp high] theorem clr_bytesE (l : List Int) : (l.map (DV.int .u8)).map DV.clr = l.map (DV.int .u8) := by simp [List.map_map, Function.comp_def]
theorem big_eq (bs : List Int) : callX XV 133 [.d (.sl .sub (bs.map (.int .u8)))] [] = some (.d (.bool (decide (1048576 < bs.length))), []) := by
  rw [z_call XV _ _ _ v133 rfl xcode_133 rfl]
  have h : decide ((1048576 : Int) < bs.length) = decide (1048576 < bs.length) := by congr 1; apply propext; omega
  simp [v133, r133_0, r133_1, h]
theorem new_seed (bs : List Int) (B : Boxs) (st : Int) : SeedAt bs B.length (B ++ [some (seedC bs 0 st)]) := by
  exact ⟨0, st, ⟨Int.le_refl _, by omega⟩, by simp [bget]⟩
end Go.Proofs.Ytficfeekkljoeaa.VS
namespace Go.Proofs.Ytficfeekkljoeaa.VS
set_option linter.unusedVariables false
set_option linter.unusedSimpArgs false
/-! ## Drawn sides -/
theorem l1Once_at (bs : List Int) (hl : bs.length ≤ 1099511627776) (B : Boxs) (i : Nat) (h : SeedAt bs i B) (n : Int) (hn : 0 < n) (hn2 : n ≤ 256) : ∃ (r : Bool) (B' : Boxs), Turned bs i B B' ∧ callX XV 162 [.ptr i 0, .d (.int .i64 n)] B = some (.d (.bool r), B') := by
  obtain ⟨r, B', h1, h2, h3⟩ := l1Below_at bs hl B i h n hn hn2
  refine ⟨r == 0, B', h2, ?_⟩
  have htk : List.take B.length B' = B' := List.take_of_length_le (by rw [h2.len]; exact Nat.le_refl _)
  have hq := h.lt
  rw [z_call XV _ _ _ v162 rfl xcode_162 rfl]
  simp [v162, r162_0, r162_1, h3, htk, hq]
theorem drawSide_loop (bs : List Int) (hl : bs.length ≤ 1099511627776) (q L : Nat) : ∀ (k i : Nat) (l : List Int) (B : Boxs), i + k = 3 → l.length ≤ i → B.length = L → SeedAt bs q B →
    ∀ s0, xheadOf L [0, 3, 4] s0 = some ⟨[(0, .ptr q 0), (3, .d (.sl U (l.map (.int .i64)))), (4, .d (.int .i64 i))], B⟩ →
    ∃ (l' : List Int) (i' : Nat) (B' : Boxs), l'.length ≤ 3 ∧ Turned bs q B B' ∧ loopX XV (XV.lin 231) L [0, 3, 4] b231_0 s0 = some (.exit 0, ⟨[(0, .ptr q 0), (3, .d (.sl U (l'.map (.int .i64)))), (4, .d (.int .i64 i')), (10, .d (.bool false))], B'⟩) := by
  intro k
  induction k with
  | zero =>
    intro i l B hik hli hB hsd s0 h0
    obtain ⟨r, B1, hr, hT, hc⟩ := l1Below_at bs hl B q hsd 3 (by omega) (by omega)
    refine ⟨l, i, B1, by omega, hT, loopX_out h0 ?_ (by simp)⟩
    have hw : IntKind.i64.wrap (1 + r) = 1 + r := wrap_i64 (by omega) (by omega)
    have hn : ¬ ((i : Int) < 1 + r) := by omega
    simp [b231_0, r231_3, hc, hn, hw]
  | succ k ih =>
    intro i l B hik hli hB hsd s0 h0
    obtain ⟨r, B1, hr, hT, hc⟩ := l1Below_at bs hl B q hsd 3 (by omega) (by omega)
    have hw1 : IntKind.i64.wrap (1 + r) = 1 + r := wrap_i64 (by omega) (by omega)
    have hq := hsd.lt
    by_cases hn : (i : Int) < 1 + r
    · have hq1 : SeedAt bs q B1 := hT.at hq
      obtain ⟨x, B2, hx, hT2, hc2⟩ := l1Below_at bs hl B1 q hq1 3 (by omega) (by omega)
      have hw2 : IntKind.i64.wrap (1 + x) = 1 + x := wrap_i64 (by omega) (by omega)
      have hl2 : B2.length = L := by rw [hT2.len, hT.len, hB]
      have ha := app_ints l [1 + x] U (by simp; omega)
      have hw := wrap_succ (n := i) (by omega)
      simp only [List.map_cons, List.map_nil] at ha
      have hb : codeX XV (XV.lin 231) b231_0 ⟨[(0, .ptr q 0), (3, .d (.sl U (l.map (.int .i64)))), (4, .d (.int .i64 i))], B⟩ = some (.normal, ⟨[(0, .ptr q 0), (3, .d (.sl U ((l ++ [1 + x]).map (.int .i64)))), (4, .d (.int .i64 ((i + 1 : Nat) : Int)))], B2⟩) := by
        generalize (l ++ [1 + x]).map (DV.int .i64) = l3 at ha ⊢
        generalize l.map (DV.int .i64) = l4 at ha ⊢
        simp [b231_0, r231_0, r231_1, r231_2, r231_3, r231_5, r231_4, r231_6, r231_7, r231_8, hc, hn, hc2, ha, hw, hw1, hw2, buildRow, List.replicate, isCell_int]
      rw [loopX_go h0 hb]
      obtain ⟨l', i', B', g1, g3, g4⟩ := ih (i + 1) (l ++ [1 + x]) B2 (by omega) (by simp; omega) hl2 (hT2.at (by rw [hT.len]; exact hq)) ⟨[(0, .ptr q 0), (3, .d (.sl U ((l ++ [1 + x]).map (.int .i64)))), (4, .d (.int .i64 ((i + 1 : Nat) : Int)))], B2⟩ (head_cut (e := []) (by simp) (by simp [safeRegs]; omega) hl2 (by simp))
      exact ⟨l', i', B', g1, (hT.trans hT2).trans g3, g4⟩
    · refine ⟨l, i, B1, by omega, hT, loopX_out h0 ?_ (by simp)⟩
      simp [b231_0, r231_3, hc, hn, hw1]
theorem drawSide_at (bs : List Int) (hl : bs.length ≤ 1099511627776) (B : Boxs) (q : Nat) (h : SeedAt bs q B) : ∃ (l : List Int) (B' : Boxs), l.length ≤ 4 ∧ Turned bs q B B' ∧ callX XV 231 [.ptr q 0] B = some (.d (.sl U (l.map (.int .i64))), B') := by
  obtain ⟨l, i, B', h1, h3, h4⟩ := drawSide_loop bs hl q B.length 3 0 [] B rfl (by simp) rfl h ⟨[(0, .ptr q 0), (3, .d (.sl U [])), (4, .d (.int .i64 0))], B⟩ (head_cut (e := []) (by simp) (by simp [safeRegs]; exact h.lt) rfl (by simp))
  have hq := h.lt
  have hq' : q < B'.length := by rw [h3.len]; exact hq
  have hB' : B'.length = B.length := h3.len
  obtain ⟨r, B2, hT2, h5⟩ := l1Once_at bs hl B' q (h3.at hq) 12 (by omega) (by omega)
  have hB2 : B2.length = B.length := by rw [hT2.len, hB']
  cases r with
  | false =>
    refine ⟨l, B2, by omega, h3.trans hT2, ?_⟩
    have htk : List.take B.length B2 = B2 := List.take_of_length_le (by omega)
    rw [z_call XV _ _ _ v231 rfl xcode_231 rfl]
    simp only [lin_231] at h4
    generalize l.map (DV.int .i64) = lm at h4 ⊢
    simp [v231, r231_0, r231_1, r231_2, buildRow, List.replicate, hq]
    rw [h4]
    simp [r231_6, r231_7, r231_8, h5, htk, hB2, hB', hq]
  | true =>
    obtain ⟨j, hj, B3, hT3, h6⟩ := l1PickInt_at bs hl B2 q (hT2.at hq') [0, 4, 5, -1] (by simp) (by simp)
    generalize ([0, 4, 5, -1] : List Int)[j] = x at h6
    have hB3 : B3.length = B.length := by rw [hT3.len, hB2]
    have ha := app_ints l [x] U (by simp; omega)
    refine ⟨l ++ [x], B3, by simp; omega, (h3.trans hT2).trans hT3, ?_⟩
    have htk : List.take B.length B3 = B3 := List.take_of_length_le (by omega)
    simp only [List.map_cons, List.map_nil] at h6 ha
    rw [z_call XV _ _ _ v231 rfl xcode_231 rfl]
    simp only [lin_231] at h4
    generalize (l ++ [x]).map (DV.int .i64) = l3 at ha ⊢
    generalize l.map (DV.int .i64) = lm at h4 ha ⊢
    simp [v231, r231_0, r231_1, r231_2, buildRow, List.replicate, hq]
    rw [h4]
    simp [r231_6, r231_7, r231_8, h5, h6, ha, htk, hB2, hB', hB3, hq, buildRow, List.replicate, isCell_int]
theorem drawBasis_eq (bs : List Int) (hl : bs.length ≤ 1099511627776) : ∃ a b : List Int, a.length ≤ 4 ∧ b.length ≤ 4 ∧ callX XV 206 [.d (.sl .sub (bs.map (.int .u8)))] [] = some (.d (.tup [.sl U (a.map (.int .i64)), .sl U (b.map (.int .i64))]), []) := by
  obtain ⟨st, h1⟩ := l1New_eq bs hl []
  have hs := new_seed bs [] st
  obtain ⟨a, B1, g1, hT, h2⟩ := drawSide_at bs hl _ 0 hs
  obtain ⟨b, B2, g2, hT2, h3⟩ := drawSide_at bs hl B1 0 (hT.at hs.lt)
  refine ⟨a, b, g1, g2, ?_⟩
  have hb1 : B1.length = 1 := by rw [hT.len]; simp
  have hb2 : B2.length = 1 := by rw [hT2.len, hb1]
  simp only [List.nil_append, List.length_nil] at h1 h2
  rw [z_call XV _ _ _ v206 rfl xcode_206 rfl]
  generalize a.map (DV.int .i64) = lm at h2 ⊢
  generalize b.map (DV.int .i64) = ln at h3 ⊢
  simp [v206, r206_0, r206_1, r206_2, r206_3, h1, h2, h3, hb1, hb2]
theorem at_eq (bs : List Int) (i : Nat) (hl : bs.length ≤ 1099511627776) (hi : i ≤ 1099511627776) : ∃ v : Int, callX XV 214 [.d (.sl .sub (bs.map (.int .u8))), .d (.int .i64 i)] [] = some (.d (.int .i64 v), []) := by
  by_cases h : i < bs.length
  · refine ⟨IntKind.i64.wrap (bs[i]), ?_⟩
    rw [z_call XV _ _ _ v214 rfl xcode_214 rfl]
    simp [v214, r214_0, r214_1, r214_2, r214_3, h, cut]
  · have hw1 : IntKind.i64.wrap ((i : Int) * 7) = (i : Int) * 7 := wrap_i64 (by omega) (by omega)
    have hw2 : IntKind.i64.wrap ((i : Int) * 7 + bs.length) = (i : Int) * 7 + bs.length := wrap_i64 (by omega) (by omega)
    have hr := evInt_rem' ((i : Int) * 7 + bs.length) 256 (by omega)
    refine ⟨((i : Int) * 7 + bs.length).tmod 256, ?_⟩
    rw [z_call XV _ _ _ v214 rfl xcode_214 rfl]
    simp [v214, r214_0, r214_1, r214_2, r214_3, h, cut, hw1, hw2, hr]
end Go.Proofs.Ytficfeekkljoeaa.VS
namespace Go.Proofs.Ytficfeekkljoeaa.VS
set_option linter.unusedVariables false
set_option linter.unusedSimpArgs false
/-! ## Sums of what solves solve -/
structure Sol (a b z : List Int) : Prop where
  len : z.length = a.length + b.length
  at_ : ∀ i, 0 ≤ iAt z i ∧ iAt z i ≤ 4
  dot : dotS a z 0 0 a.length = dotS b z a.length 0 b.length
theorem sol_of {a b z : List Int} (ha : fineB a = true) (hb : fineB b = true) (hz : z ∈ basisL a b) : Sol a b z := by
  have la := fine_len ha
  have lb := fine_len hb
  have ma := maxL_fine ha
  have mb := maxL_fine hb
  have h1 : z ∈ allL a b := List.mem_of_mem_take (List.mem_filter.1 hz).1
  unfold allL allTo at h1
  obtain ⟨x, hx, h2⟩ := List.mem_flatMap.1 h1
  unfold sideTo at h2
  obtain ⟨h3, h4⟩ := List.mem_filter.1 h2
  obtain ⟨y, hy, rfl⟩ := List.mem_map.1 h3
  have wx : Way a.length x := way_of la.2 (by omega) (List.mem_of_mem_take hx)
  have wy : Way b.length y := way_of lb.2 (by omega) (List.mem_of_mem_take hy)
  unfold pickB at h4
  rw [solves_way ha hb wx wy] at h4
  simp only [Bool.and_eq_true, decide_eq_true_eq] at h4
  have e1 : dotS a (x ++ y) 0 0 a.length = dotS a x 0 0 a.length := dot_same a _ _ 0 0 _ _ (fun j h1 h2 => by
    have := wx.len
    simp only [Nat.zero_add]
    exact iAt_left x y j (by omega))
  have e2 : dotS b (x ++ y) a.length 0 b.length = dotS b y 0 0 b.length := dot_same b _ _ a.length 0 _ _ (fun j h1 h2 => by
    rw [← wx.len, iAt_right, Nat.zero_add])
  refine ⟨by rw [List.length_append, wx.len, wy.len], fun i => ?_, by rw [e1, e2]; exact h4.2⟩
  by_cases hi : i < x.length
  · rw [iAt_left x y i hi]; exact wx.at_ i
  · obtain ⟨j, rfl⟩ : ∃ j, i = x.length + j := ⟨i - x.length, by omega⟩
    rw [iAt_right]; exact wy.at_ j
theorem iAt_out {l : List Int} {i : Nat} (h : l.length ≤ i) : iAt l i = 0 := by
  unfold iAt; rw [List.getElem?_eq_none h]; rfl
theorem dot_add (c x y z : List Int) (o : Nat) (h : ∀ i, iAt z i = iAt x i + iAt y i) : ∀ (k i : Nat), dotS c z o i k = dotS c x o i k + dotS c y o i k
  | 0, i => by simp [dotS]
  | k + 1, i => by
    simp only [dotS]
    rw [dot_add c x y z o h k (i + 1), h, Int.mul_add]
    omega
theorem sum_step {a b : List Int} (ps : List (List Int)) (j : Nat) (hs : ∀ z, z ∈ ps → Sol a b z) (hj : j < ps.length) (hb : ∀ i, 0 ≤ iAt (sumJ (a.length + b.length) ps j) i ∧ iAt (sumJ (a.length + b.length) ps j) i ≤ 4 * (j : Int)) (hj2 : j ≤ 100000) :
    ∀ i, iAt (sumJ (a.length + b.length) ps (j + 1)) i = iAt (sumJ (a.length + b.length) ps j) i + iAt (rAt ps j) i := by
  intro i
  have hr := hs _ (rAt_mem hj)
  by_cases hi : i < a.length + b.length
  · rw [sumJ_at _ ps j i hi, if_pos (by rw [hr.len]; exact hi)]
    have h1 := hb i
    have h2 := hr.at_ i
    exact wrap_i64 (by omega) (by omega)
  · rw [iAt_out (by rw [sumJ_len]; omega), iAt_out (by rw [sumJ_len]; omega), iAt_out (by rw [hr.len]; omega)]
    rfl
theorem sum_all {a b : List Int} (ps : List (List Int)) (hs : ∀ z, z ∈ ps → Sol a b z) (hl : ps.length ≤ 100000) : ∀ j, j ≤ ps.length →
    (∀ i, 0 ≤ iAt (sumJ (a.length + b.length) ps j) i ∧ iAt (sumJ (a.length + b.length) ps j) i ≤ 4 * (j : Int)) ∧ dotS a (sumJ (a.length + b.length) ps j) 0 0 a.length = dotS b (sumJ (a.length + b.length) ps j) a.length 0 b.length
  | 0, _ => by
    refine ⟨fun i => ?_, ?_⟩
    · simp only [sumJ]; rw [iAt_rep]; simp
    · simp only [sumJ]
      rw [dot_zero a _ 0 _ _ (fun j _ _ => iAt_rep _ _), dot_zero b _ _ _ _ (fun j _ _ => iAt_rep _ _)]
  | j + 1, hj => by
    obtain ⟨h1, h2⟩ := sum_all ps hs hl j (by omega)
    have hst := sum_step ps j hs (by omega) h1 (by omega)
    have hr := hs _ (rAt_mem (l := ps) (i := j) (by omega))
    refine ⟨fun i => ?_, ?_⟩
    · rw [hst i]
      have := h1 i
      have := hr.at_ i
      push_cast
      omega
    · rw [dot_add a _ _ _ 0 hst, dot_add b _ _ _ a.length hst, h2, hr.dot]
theorem sums_solve {a b : List Int} (ha : fineB a = true) (hb : fineB b = true) (ps : List (List Int)) (hs : ∀ z, z ∈ ps → z ∈ basisL a b) (hl : ps.length ≤ 100000) : solvesB a b (sumL ps ((a.length : Int) + b.length)) = true := by
  have la := fine_len ha
  have lb := fine_len hb
  obtain ⟨h1, h2⟩ := sum_all ps (fun z hz => sol_of ha hb (hs z hz)) hl ps.length (Nat.le_refl _)
  have e : sumL ps ((a.length : Int) + b.length) = sumJ (a.length + b.length) ps ps.length := by
    unfold sumL
    rw [if_pos ⟨by omega, by omega⟩]
    congr 1
  rw [e]
  have hlen := sumJ_len (a.length + b.length) ps ps.length
  generalize sumJ (a.length + b.length) ps ps.length = s at h1 h2 hlen ⊢
  have hneg : findAt (negAt s) s.length 0 = none := by
    cases hq : findAt (negAt s) s.length 0 with
    | none => rfl
    | some j =>
      obtain ⟨_, h3, h4⟩ := findAt_lt _ _ _ _ hq
      exfalso
      unfold negAt at h4
      simp only [decide_eq_true_eq] at h4
      have := (h1 j).1
      omega
  unfold solvesB
  rw [hneg, h2, hlen]
  simp
end Go.Proofs.Ytficfeekkljoeaa.VS
namespace Go.Proofs.Ytficfeekkljoeaa.VS
set_option linter.unusedVariables false
set_option linter.unusedSimpArgs false
/-! ## The law: sums of a basis solve -/
theorem rem3_lt (v : Int) : v.tmod 3 < 3 := by
  have h := Int.tmod_lt_of_pos v (b := 3) (by omega)
  exact h
theorem some_in (bs a b : List Int) (bl : List (List Int)) (i : Nat) (hl : bs.length ≤ 1099511627776) (hi : i < bl.length) (hbl : bl.length ≤ 60) : ∀ (j k : Nat) (S : List (List Int)), k + j = 3 → S.length ≤ 1000 + k → (∀ z, z ∈ S → z ∈ bl) →
    ∃ (S' : List (List Int)) (k' : Nat), S'.length ≤ S.length + j ∧ (∀ z, z ∈ S' → z ∈ bl) ∧
      loopX XV (XV.lin 354) 0 [0, 3, 4, 5, 9, 10, 11] b354_1 ⟨[(0, .d (.sl .sub (bs.map (.int .u8)))), (3, .d (is a)), (4, .d (is b)), (5, .d (iss .sub bl)), (9, .d (.sl U (S.map (ints .sub)))), (10, .d (.int .i64 i)), (11, .d (.int .i64 k))], []⟩ =
        some (.exit 2, ⟨[(0, .d (.sl .sub (bs.map (.int .u8)))), (3, .d (is a)), (4, .d (is b)), (5, .d (iss .sub bl)), (9, .d (.sl U (S'.map (ints .sub)))), (10, .d (.int .i64 i)), (11, .d (.int .i64 k')), (53, .d (.bool false))], []⟩)
  | 0, k, S, hk, hS, hin => by
    obtain ⟨v, hv⟩ := at_eq bs i hl (by omega)
    have hr := evInt_rem' v 3 (by omega)
    have h3 := rem3_lt v
    refine ⟨S, k, by omega, hin, loopX_out (s0 := ⟨[(0, .d (.sl .sub (bs.map (.int .u8)))), (3, .d (is a)), (4, .d (is b)), (5, .d (iss .sub bl)), (9, .d (.sl U (S.map (ints .sub)))), (10, .d (.int .i64 i)), (11, .d (.int .i64 k))], []⟩) (by simp [xheadOf, safeRegs]) ?_ (by simp)⟩
    have hn : ¬ ((k : Int) < v.tmod 3) := by omega
    simp [b354_1, r354_0, r354_1, r354_2, r354_3, r354_4, r354_5, r354_6, r354_7, r354_8, r354_9, r354_10, r354_12, r354_13, r354_15, r354_14, r354_11, r354_16, hv, hr, hn]
  | j + 1, k, S, hk, hS, hin => by
    obtain ⟨v, hv⟩ := at_eq bs i hl (by omega)
    have hr := evInt_rem' v 3 (by omega)
    have h3 := rem3_lt v
    have h0 : xheadOf 0 [0, 3, 4, 5, 9, 10, 11] ⟨[(0, .d (.sl .sub (bs.map (.int .u8)))), (3, .d (is a)), (4, .d (is b)), (5, .d (iss .sub bl)), (9, .d (.sl U (S.map (ints .sub)))), (10, .d (.int .i64 i)), (11, .d (.int .i64 k))], []⟩ = some ⟨[(0, .d (.sl .sub (bs.map (.int .u8)))), (3, .d (is a)), (4, .d (is b)), (5, .d (iss .sub bl)), (9, .d (.sl U (S.map (ints .sub)))), (10, .d (.int .i64 i)), (11, .d (.int .i64 k))], []⟩ := by simp [xheadOf, safeRegs]
    by_cases hn : (k : Int) < v.tmod 3
    · have hw := wrap_succ (n := k) (by omega)
      have h2 : xappend 1 24 (.sl U (S.map (ints .sub))) (.sl U [.sl .sub ((rAt bl i).map (.int .i64))]) = some (.sl U ((S ++ [rAt bl i]).map (ints .sub))) := by
        have := app_row S .sub .sub U (rAt bl i) (by omega)
        rw [List.map_append]
        exact this
      obtain ⟨S', k', g1, g2, g3⟩ := some_in bs a b bl i hl hi hbl j (k + 1) (S ++ [rAt bl i]) (by omega) (by simp; omega) (fun z hz => by
        rcases List.mem_append.1 hz with h | h
        · exact hin z h
        · simp at h; subst h; exact rAt_mem hi)
      refine ⟨S', k', by simp at g1; omega, g2, ?_⟩
      have hb : codeX XV (XV.lin 354) b354_1 ⟨[(0, .d (.sl .sub (bs.map (.int .u8)))), (3, .d (is a)), (4, .d (is b)), (5, .d (iss .sub bl)), (9, .d (.sl U (S.map (ints .sub)))), (10, .d (.int .i64 i)), (11, .d (.int .i64 k))], []⟩ = some (.normal, ⟨[(0, .d (.sl .sub (bs.map (.int .u8)))), (3, .d (is a)), (4, .d (is b)), (5, .d (iss .sub bl)), (9, .d (.sl U ((S ++ [rAt bl i]).map (ints .sub)))), (10, .d (.int .i64 i)), (11, .d (.int .i64 (k + 1 : Nat)))], []⟩) := by
        generalize (S ++ [rAt bl i]).map (ints .sub) = l3 at h2 ⊢
        generalize S.map (ints .sub) = l4 at h2 ⊢
        simp [b354_1, r354_0, r354_1, r354_2, r354_3, r354_4, r354_5, r354_6, r354_7, r354_8, r354_9, r354_10, r354_12, r354_13, r354_15, r354_14, r354_11, r354_16, hv, hr, hn, hi, hw, h2, cut, rAt_lt hi]
      rw [loopX_go h0 hb]
      exact g3
    · refine ⟨S, k, by omega, hin, loopX_out h0 ?_ (by simp)⟩
      simp [b354_1, r354_0, r354_1, r354_2, r354_3, r354_4, r354_5, r354_6, r354_7, r354_8, r354_9, r354_10, r354_12, r354_13, r354_15, r354_14, r354_11, r354_16, hv, hr, hn]
theorem some_out (bs a b : List Int) (bl : List (List Int)) (hl : bs.length ≤ 1099511627776) (hbl : bl.length ≤ 60) : ∀ (j i : Nat) (S : List (List Int)), i + j = bl.length → S.length ≤ 3 * i → (∀ z, z ∈ S → z ∈ bl) →
    ∃ (S' : List (List Int)), S'.length ≤ 180 ∧ (∀ z, z ∈ S' → z ∈ bl) ∧
      loopX XV (XV.lin 354) 0 [0, 3, 4, 5, 9, 10] b354_0 ⟨[(0, .d (.sl .sub (bs.map (.int .u8)))), (3, .d (is a)), (4, .d (is b)), (5, .d (iss .sub bl)), (9, .d (.sl U (S.map (ints .sub)))), (10, .d (.int .i64 i))], []⟩ =
        some (.exit 0, ⟨[(0, .d (.sl .sub (bs.map (.int .u8)))), (3, .d (is a)), (4, .d (is b)), (5, .d (iss .sub bl)), (9, .d (.sl U (S'.map (ints .sub)))), (10, .d (.int .i64 bl.length)), (45, .d (.bool false))], []⟩)
  | 0, i, S, hi, hS, hin => by
    have he : i = bl.length := by omega
    subst he
    refine ⟨S, by omega, hin, loopX_out (s0 := ⟨[(0, .d (.sl .sub (bs.map (.int .u8)))), (3, .d (is a)), (4, .d (is b)), (5, .d (iss .sub bl)), (9, .d (.sl U (S.map (ints .sub)))), (10, .d (.int .i64 bl.length))], []⟩) (by simp [xheadOf, safeRegs]) ?_ (by simp)⟩
    simp [b354_0, r354_0, r354_1, r354_2, r354_3, r354_4, r354_5, r354_6, r354_7, r354_8, r354_9, r354_10, r354_12, r354_13, r354_15, r354_14, r354_11, r354_16]
  | j + 1, i, S, hi, hS, hin => by
    have hlt : i < bl.length := by omega
    have hw := wrap_succ (n := i) (by omega)
    obtain ⟨S1, k', g1, g2, g3⟩ := some_in bs a b bl i hl hlt hbl 3 0 S (by omega) (by omega) hin
    obtain ⟨S', q1, q2, q3⟩ := some_out bs a b bl hl hbl j (i + 1) S1 (by omega) (by omega) g2
    refine ⟨S', q1, q2, ?_⟩
    have hb : codeX XV (XV.lin 354) b354_0 ⟨[(0, .d (.sl .sub (bs.map (.int .u8)))), (3, .d (is a)), (4, .d (is b)), (5, .d (iss .sub bl)), (9, .d (.sl U (S.map (ints .sub)))), (10, .d (.int .i64 i))], []⟩ = some (.normal, ⟨[(0, .d (.sl .sub (bs.map (.int .u8)))), (3, .d (is a)), (4, .d (is b)), (5, .d (iss .sub bl)), (9, .d (.sl U (S1.map (ints .sub)))), (10, .d (.int .i64 (i + 1 : Nat)))], []⟩) := by
      simp only [lin_354] at g3
      simp only [Int.natCast_zero] at g3
      generalize S1.map (ints .sub) = l3 at g3 ⊢
      generalize S.map (ints .sub) = l4 at g3 ⊢
      simp [b354_0, r354_0, r354_1, r354_2, r354_3, r354_4, r354_5, r354_6, r354_7, r354_8, r354_9, r354_10, r354_12, r354_13, r354_15, r354_14, r354_11, r354_16, hlt, hw, g3]
    rw [loopX_go (s0 := ⟨[(0, .d (.sl .sub (bs.map (.int .u8)))), (3, .d (is a)), (4, .d (is b)), (5, .d (iss .sub bl)), (9, .d (.sl U (S.map (ints .sub)))), (10, .d (.int .i64 i))], []⟩) (by simp [xheadOf, safeRegs]) hb]
    exact q3
theorem FnBasisSums_x (bs : List Int) (hl : bs.length ≤ maxLen) : ∃ B, callX XV 354 [.d (.sl .sub (bs.map (.int .u8)))] [] = some (.d (.bool true), B) := by
  rw [z_call XV _ _ _ v354 rfl xcode_354 rfl]
  have hbig := big_eq bs
  by_cases h1 : 1048576 < bs.length
  · simp only [h1, decide_true] at hbig
    simp [v354, r354_0, r354_1, r354_2, r354_3, r354_4, r354_5, r354_6, r354_7, r354_8, r354_9, r354_10, r354_12, r354_13, r354_15, r354_14, r354_11, r354_16, hbig]
  have hls : bs.length ≤ 1099511627776 := by omega
  simp only [h1, decide_false] at hbig
  obtain ⟨a, b, ha4, hb4, hd⟩ := drawBasis_eq bs hls
  have b1 := implBasis_eq a b (by omega) (by omega)
  have b2 := specBasis_eq a b (by omega) (by omega)
  by_cases hok : fineB a = true ∧ fineB b = true ∧ (basisL a b).length ≤ 60
  · rw [if_pos hok] at b1 b2
    obtain ⟨fa, fb, h60⟩ := hok
    obtain ⟨S, q1, q2, q3⟩ := some_out bs a b (basisL a b) hls h60 (basisL a b).length 0 [] (by omega) (by simp) (fun z hz => by simp at hz)
    have hsol := sums_solve fa fb S q2 (by omega)
    have hsum := implSum_eq S ((a.length : Int) + b.length) (by omega) (fun i hi => by
      have := (sol_of fa fb (q2 _ (rAt_mem hi))).len
      omega)
    have hlen := sumL_len S ((a.length : Int) + b.length)
    have hs2 := implSolves_eq a b (sumL S ((a.length : Int) + b.length)) (by omega) (by omega) (by omega)
    rw [hsol] at hs2
    have hw : IntKind.i64.wrap ((a.length : Int) + b.length) = (a.length : Int) + b.length := wrap_i64 (by omega) (by omega)
    generalize sumL S ((a.length : Int) + b.length) = s at *
    simp only [lin_354, List.map_nil, Int.natCast_zero] at q3
    generalize basisL a b = bl at *
    simp [v354, r354_0, r354_1, r354_2, r354_3, r354_4, r354_5, r354_6, r354_7, r354_8, r354_9, r354_10, r354_12, r354_13, r354_15, r354_14, r354_11, r354_16, hbig, hd, b1, b2]
    rw [q3]
    simp [v354, r354_0, r354_1, r354_2, r354_3, r354_4, r354_5, r354_6, r354_7, r354_8, r354_9, r354_10, r354_12, r354_13, r354_15, r354_14, r354_11, r354_16, hw, hsum, hs2]
  · rw [if_neg hok] at b1 b2
    simp [v354, r354_0, r354_1, r354_2, r354_3, r354_4, r354_5, r354_6, r354_7, r354_8, r354_9, r354_10, r354_12, r354_13, r354_15, r354_14, r354_11, r354_16, hbig, hd, b1, b2]
end Go.Proofs.Ytficfeekkljoeaa.VS
namespace Go.Proofs.Ytficfeekkljoeaa.VS
set_option linter.unusedVariables false
set_option linter.unusedSimpArgs false
/-! ## From a law's arguments to values without names -/
mutual
def TT.erase : TT → T
  | .node f v g ks => .node f v (TT.erases ks)
def TT.erases : List TT → List T
  | [] => []
  | t :: r => t.erase :: TT.erases r
end
mutual
theorem TT.clr_cells : ∀ t : TT, DV.clrs t.cells = [.int .i64 t.erase.f, .int .i64 t.erase.v, terms .sub t.erase.kids]
  | .node f v g ks => by
    simp only [TT.cells, DV.clrs, DV.clr, TT.erase, T.f_node, T.v_node, T.kids_node, terms]
    rw [TT.clr_encs ks]
theorem TT.clr_encs : ∀ l : List TT, DV.clrs (TT.encs l) = (TT.erases l).map (T.enc .sub)
  | [] => by simp [TT.encs, DV.clrs, TT.erases]
  | t :: r => by
    simp only [TT.encs, DV.clrs, DV.clr, TT.erases, List.map_cons]
    rw [TT.clr_cells t, TT.clr_encs r, T.enc_eq]
end
theorem TT.clr_enc (t : TT) : t.enc.clr = t.erase.enc .sub := by
  simp only [TT.enc, DV.clr]
  rw [TT.clr_cells, T.enc_eq]
theorem plain_of_X (hX : XOK XV) {k : Nat} {vs : List DV} (h : ∃ B, callX XV k ((DV.clrs vs).map .d) [] = some (.d (.bool true), B)) : ∃ A B, callV E [] k (vs.map .d) [] Ids.none = some ⟨.d (.bool true), A, B⟩ := by
  obtain ⟨B, h⟩ := h
  obtain ⟨u, A, Bv, h1, h2⟩ := law_of_X hX (DV.clrs_clrs vs) (DV.clrs_fits vs) (d := .bool true) (by simp [DV.clr]) h
  simp only [DV.fit] at h2; subst h2
  exact ⟨A, Bv, h1⟩
theorem args1 {P : Program} {a : TypeId} : ∀ {xs : List (List DV)}, Args P [a] xs → ∃ x, xs = [x]
  | [x], _ => ⟨x, rfl⟩
  | [], h => h.elim
  | _ :: _ :: _, h => h.2.elim
end Go.Proofs.Ytficfeekkljoeaa.VS
namespace Go.Proofs.Ytficfeekkljoeaa.VS
set_option linter.unusedVariables false
set_option linter.unusedSimpArgs false
/-- A literal. -/
structure L where
  p : Bool
  a : T
  b : T
def L.enc (g : Tag) (x : L) : DV := .agg [.bool x.p, .int .i64 x.a.f, .int .i64 x.a.v, terms g x.a.kids, .int .i64 x.b.f, .int .i64 x.b.v, terms g x.b.kids]
def L.ok (x : L) : Prop := x.a.ok ∧ x.b.ok
@[simp] theorem L.cells_enc (g : Tag) (x : L) : (x.enc g).cells = [.bool x.p, .int .i64 x.a.f, .int .i64 x.a.v, terms g x.a.kids, .int .i64 x.b.f, .int .i64 x.b.v, terms g x.b.kids] := rfl
@[simp] theorem L.cellsA_enc (g : Tag) (x : L) : (AV.d (x.enc g)).cells = [.d (.bool x.p), .d (.int .i64 x.a.f), .d (.int .i64 x.a.v), .d (terms g x.a.kids), .d (.int .i64 x.b.f), .d (.int .i64 x.b.v), .d (terms g x.b.kids)] := rfl
@[simp] theorem L.isCell_enc (g : Tag) (x : L) : (x.enc g).isCell = false := rfl
@[simp] theorem L.clr_enc (g : Tag) (x : L) : (x.enc g).clr = x.enc .sub := by
  simp only [L.enc, DV.clr, DV.clrs, terms, DV.clrs_map, clr_terms]
theorem L.agg_enc (g : Tag) (x : L) : DV.agg [.bool x.p, .int .i64 x.a.f, .int .i64 x.a.v, terms g x.a.kids, .int .i64 x.b.f, .int .i64 x.b.v, terms g x.b.kids] = x.enc g := rfl
def L.cmp (x y : L) : Int := if !x.p && y.p then -1 else if x.p && !y.p then 1 else if T.cmp x.a y.a ≠ 0 then T.cmp x.a y.a else T.cmp x.b y.b
def L.same (x y : L) : Bool := x.p == y.p && (T.cmp x.a y.a == 0) && (T.cmp x.b y.b == 0)
end Go.Proofs.Ytficfeekkljoeaa.VS
namespace Go.Proofs.Ytficfeekkljoeaa.VS
set_option linter.unusedVariables false
set_option linter.unusedSimpArgs false
end Go.Proofs.Ytficfeekkljoeaa.VS
namespace Go.Proofs.Ytficfeekkljoeaa.VS
set_option linter.unusedVariables false
set_option linter.unusedSimpArgs false
end Go.Proofs.Ytficfeekkljoeaa.VS
namespace Go.Proofs.Ytficfeekkljoeaa.VS
set_option linter.unusedVariables false
set_option linter.unusedSimpArgs false
def headBad (l : List SymL) (f v : Int) (n : Nat) : Bool :=
  if symIn l f = true then
    if v = 0 then (if (symAt l f.toNat).ac = true then decide ((n : Int) < 2) else !decide ((n : Int) = (symAt l f.toNat).arity))
    else true
  else true
/-- A Kid that may not stand there, if it is right by itself. -/
def outOf (l : List SymL) (f : Int) (ks : List T) (i : Nat) : Bool :=
  if (symAt l f.toNat).ac = true then (if (tAt ks i).f = f then true else if i = 0 then false else decide (T.cmp (tAt ks i) (tAt ks (i - 1)) < 0)) else false
mutual
def T.form (l : List SymL) : T → Bool
  | .node f v ks =>
    if f = -1 then inB v 0 99 && decide (ks.length = 0)
    else if headBad l f v ks.length = true then false
    else (findAt (fun i => !((T.forms l ks)[i]?).getD false || outOf l f ks i) ks.length 0).isNone
def T.forms (l : List SymL) : List T → List Bool
  | [] => []
  | t :: r => T.form l t :: T.forms l r
end
end Go.Proofs.Ytficfeekkljoeaa.VS
namespace Go.Proofs.Ytficfeekkljoeaa.VS
set_option linter.unusedVariables false
set_option linter.unusedSimpArgs false
/-! ## Substitutions -/
structure Bd where
  v : Int
  t : T
def Bd.enc (g : Tag) (b : Bd) : DV := .agg [.int .i64 b.v, .int .i64 b.t.f, .int .i64 b.t.v, terms g b.t.kids]
def Bd.ok (b : Bd) : Prop := (-9223372036854775808 ≤ b.v ∧ b.v ≤ 9223372036854775807) ∧ b.t.ok
abbrev binds (g : Tag) (l : List Bd) : DV := .sl g (l.map (Bd.enc g))
@[simp] theorem Bd.cells_enc (g : Tag) (x : Bd) : (x.enc g).cells = [.int .i64 x.v, .int .i64 x.t.f, .int .i64 x.t.v, terms g x.t.kids] := rfl
@[simp] theorem Bd.cellsA_enc (g : Tag) (x : Bd) : (AV.d (x.enc g)).cells = [.d (.int .i64 x.v), .d (.int .i64 x.t.f), .d (.int .i64 x.t.v), .d (terms g x.t.kids)] := rfl
@[simp] theorem Bd.isCell_enc (g : Tag) (x : Bd) : (x.enc g).isCell = false := rfl
@[simp] theorem Bd.isAgg_enc (g : Tag) (x : Bd) : isAgg (x.enc g) = true := rfl
@[simp] theorem Bd.clr_enc (g : Tag) (x : Bd) : (x.enc g).clr = x.enc .sub := by
  simp only [Bd.enc, DV.clr, DV.clrs, terms, DV.clrs_map, clr_terms]
@[simp high] theorem Bd.clr_encs (g : Tag) (l : List Bd) : (l.map (Bd.enc g)).map DV.clr = l.map (Bd.enc .sub) := by simp [List.map_map, Function.comp_def]
@[simp] theorem Bd.agg_enc (g : Tag) (x : Bd) : DV.agg [.int .i64 x.v, .int .i64 x.t.f, .int .i64 x.t.v, terms g x.t.kids] = x.enc g := rfl
end Go.Proofs.Ytficfeekkljoeaa.VS
namespace Go.Proofs.Ytficfeekkljoeaa.VS
set_option linter.unusedVariables false
set_option linter.unusedSimpArgs false
variable {P : Program}
/-! ## Literals, and rows of what a type's values are -/
structure LL where
  p : Bool
  a : TT
  b : TT
def LL.cells (x : LL) : List DV := .bool x.p :: (x.a.cells ++ x.b.cells)
def LL.enc (x : LL) : DV := .agg x.cells
def LL.ok (x : LL) : Prop := x.a.ok ∧ x.b.ok
def LL.erase (x : LL) : L := ⟨x.p, x.a.erase, x.b.erase⟩
theorem LL.clr_enc (x : LL) : x.enc.clr = x.erase.enc .sub := by
  have ha := TT.clr_cells x.a
  have hb := TT.clr_cells x.b
  rw [DV.clrs_map] at ha hb
  simp only [LL.enc, LL.cells, DV.clr, DV.clrs_map, List.map_cons, List.map_append, ha, hb, LL.erase, L.enc]
  rfl
/-- A row of values of one type, each of which is some thing's cells. -/
theorem shape_listOf {α : Type} (c : α → List DV) (ok : α → Prop) {t e : TypeId} {x : List DV} (hu : P.underlying t = some (.slice e)) (hE : ∀ y : List DV, Shape P e y → ∃ s : α, y = c s ∧ ok s) (h : Shape P t x) :
    ∃ (g : Tag) (l : List α), x = [.sl g (l.map fun s => elemDV P e (c s))] ∧ l.length ≤ maxLen ∧ ∀ s, s ∈ l → ok s := by
  obtain ⟨g, xs, rfl, q1, q2, q3, q4⟩ := shape_slice hu h
  have key : ∀ xs : List DV, (∀ y : DV, y ∈ xs → y = elemDV P e y.cells) → (∀ y : DV, y ∈ xs → Shape P e y.cells) → ∃ l : List α, xs = (l.map fun s => elemDV P e (c s)) ∧ ∀ s, s ∈ l → ok s := by
    intro xs
    induction xs with
    | nil => intro _ _; exact ⟨[], rfl, by simp⟩
    | cons y r ih =>
      intro p1 p2
      obtain ⟨l, rfl, hl⟩ := ih (fun z hz => p1 z (by simp [hz])) (fun z hz => p2 z (by simp [hz]))
      obtain ⟨s, hs, hok⟩ := hE _ (p2 y (by simp))
      refine ⟨s :: l, ?_, by simpa [hok] using hl⟩
      have := p1 y (by simp)
      rw [hs] at this
      rw [List.map_cons, ← this]
  obtain ⟨l, rfl, hl⟩ := key xs q3 q4
  exact ⟨g, l, rfl, by simpa using q1, hl⟩
/-! Rows of terms -/
/-! Substitutions -/
structure BB where
  v : Int
  t : TT
def BB.cells (x : BB) : List DV := .int .i64 x.v :: x.t.cells
def BB.enc (x : BB) : DV := .agg x.cells
def BB.ok (x : BB) : Prop := (-9223372036854775808 ≤ x.v ∧ x.v ≤ 9223372036854775807) ∧ x.t.ok
def BB.erase (x : BB) : Bd := ⟨x.v, x.t.erase⟩
theorem BB.clr_enc (x : BB) : x.enc.clr = x.erase.enc .sub := by
  have ha := TT.clr_cells x.t
  rw [DV.clrs_map] at ha
  simp only [BB.enc, BB.cells, DV.clr, DV.clrs_map, List.map_cons, ha, BB.erase, Bd.enc]
/-! Bytes -/
def bytesL (g : Tag) (l : List Int) : DV := .sl g (l.map (.int .u8))
theorem clr_bytesL (g : Tag) (l : List Int) : (bytesL g l).clr = .sl .sub (l.map (.int .u8)) := by
  simp only [bytesL, clr_sl, List.map_map, Function.comp_def, clr_int]
theorem shape_bytes {t e : TypeId} {x : List DV} (hu : P.underlying t = some (.slice e)) (he : P.underlying e = some (.int .u8)) (h : Shape P t x) : ∃ g l, x = [bytesL g l] ∧ l.length ≤ maxLen := by
  obtain ⟨g, l, rfl, h1, _⟩ := shape_listOf (fun n : Int => [DV.int .u8 n]) (fun _ => True) hu (fun y hy => by
    obtain ⟨n, rfl, _⟩ := shape_int he hy
    exact ⟨n, rfl, trivial⟩) h
  exact ⟨g, l, by simp [bytesL, elemDV, he], h1⟩
end Go.Proofs.Ytficfeekkljoeaa.VS
