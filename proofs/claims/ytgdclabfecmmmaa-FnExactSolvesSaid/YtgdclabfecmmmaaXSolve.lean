/- Contracts of the program's functions on the evaluator without names, and plain lemmas: XSolve. -/
import Derived.Test.YtgdclabfecmmmaaXInts
import Derived.Test.YtgdclabfecmmmaaXSigOk
namespace Go.Proofs.Ytgdclabfecmmmaa.VS
set_option linter.unusedVariables false
set_option linter.unusedSimpArgs false
/-! ## What solves an equation -/
abbrev W (x : Int) : Int := IntKind.i64.wrap x
theorem W_eq (x : Int) : IntKind.i64.wrap x = if x % 18446744073709551616 ≥ 9223372036854775808 then x % 18446744073709551616 - 18446744073709551616 else x % 18446744073709551616 := by
  simp [IntKind.wrap, IntKind.bits, IntKind.signed]
theorem W_add (x y : Int) : W (W x + W y) = W (x + y) := by
  simp only [W, W_eq]
  split <;> split <;> split <;> split <;> omega
theorem W_sub (x y : Int) : W (W x - W y) = W (x - y) := by
  simp only [W, W_eq]
  split <;> split <;> split <;> split <;> omega
theorem W_beq (x y : Int) : (W x == W y) = (W (x - y) == 0) := by
  have : (W x = W y) ↔ (W (x - y) = 0) := by
    simp only [W, W_eq]
    split <;> split <;> split <;> omega
  rw [Bool.eq_iff_iff]; simpa using this
def dotS (a x : List Int) (o : Nat) : Nat → Nat → Int
  | _, 0 => 0
  | i, k + 1 => iAt a i * iAt x (o + i) + dotS a x o (i + 1) k
def stepT7 (a x : List Int) (o : Nat) (t : Int) (i : Nat) : Int ⊕ Unit := .inl (W (t + W (iAt a i * iAt x (o + i))))
def stepM7 (a x : List Int) (o : Nat) (t : Int) (i : Nat) : Int ⊕ Unit := .inl (W (t - W (iAt a i * iAt x (o + i))))
theorem runT7 (a x : List Int) (o : Nat) : ∀ (k i : Nat) (d : Int), runN (stepT7 a x o) k (W d) i = .inl (W (d + dotS a x o i k))
  | 0, i, d => by simp [runN, dotS]
  | k + 1, i, d => by
    simp only [runN, stepT7, W_add, dotS]
    rw [runT7 a x o k (i + 1) _]
    congr 2; omega
theorem runM7 (a x : List Int) (o : Nat) : ∀ (k i : Nat) (d : Int), runN (stepM7 a x o) k (W d) i = .inl (W (d - dotS a x o i k))
  | 0, i, d => by simp [runN, dotS]
  | k + 1, i, d => by
    simp only [runN, stepM7, W_sub, dotS]
    rw [runM7 a x o k (i + 1) _]
    congr 2; omega
theorem W_zero : W 0 = 0 := rfl
theorem total_eq (a x : List Int) (o : Nat) (ha : a.length ≤ 1048576) (hx : x.length ≤ 2097152) (h : o + a.length ≤ x.length) : callX XV 48 [.d (is a), .d (is x), .d (.int .i64 o)] [] = some (.d (.int .i64 (W (dotS a x o 0 a.length))), []) := by
  rw [z_call XV _ _ _ v48 rfl xcode_48 rfl]
  have hloop := loopX_upto (X := XV) (T := []) (L := 0) (live := [0, 1, 2, 7, 8]) (b := b48_0) (n := a.length) (γ := Unit) (st := fun (t : Int) i => ⟨[(0, .d (is a)), (1, .d (is x)), (2, .d (.int .i64 o)), (7, .d (.int .i64 t)), (8, .d (.int .i64 i))], []⟩) (step := stepT7 a x o)
    (F := fun t => (.exit 0, ⟨[(0, .d (is a)), (1, .d (is x)), (2, .d (.int .i64 o)), (7, .d (.int .i64 t)), (8, .d (.int .i64 a.length)), (12, .d (.bool false))], []⟩)) (R := fun _ => (.ret, ⟨[], []⟩))
    (fun _ => ⟨by simp, by simp [b48_0, r48_0, r48_1, r48_2, r48_3, d48_5, r48_4, r48_6]⟩)
    (fun t i hi => by
      have hw := wrap_succ (n := i) (by omega)
      have hw2 : IntKind.i64.wrap ((o : Int) + i) = (o : Int) + i := wrap_i64 (by omega) (by omega)
      have hp : (0 : Int) ≤ (o : Int) + i := by omega
      have ht : ((o : Int) + i).toNat = o + i := by omega
      have hx3 : (o : Int) + i < x.length := by omega
      have hx2 : o + i < x.length := by omega
      exact ⟨_, by simp [b48_0, r48_0, r48_1, r48_2, r48_3, d48_5, r48_4, r48_6, hi, hw, hw2, hp, ht, hx2, hx3, cut, iAt_lt hi, iAt_lt hx2]; rfl, by simp [xheadOf, safeRegs]⟩)
    a.length 0 0 ⟨[(0, .d (is a)), (1, .d (is x)), (2, .d (.int .i64 o)), (7, .d (.int .i64 0)), (8, .d (.int .i64 0))], []⟩ (by omega) (by simp [xheadOf, safeRegs])
  have hr := runT7 a x o a.length 0 0
  rw [W_zero, Int.zero_add] at hr
  rw [hr] at hloop
  simp [v48, r48_0, r48_1, r48_2, r48_3, d48_5, r48_4, r48_6]
  rw [hloop]
  simp [v48, r48_0, r48_1, r48_2, r48_3, d48_5, r48_4, r48_6]
def negAt (x : List Int) (i : Nat) : Bool := decide (iAt x i < 0)
def solvesB (a b x : List Int) : Bool :=
  decide (x.length = a.length + b.length) && ((findAt (negAt x) x.length 0).isNone && (W (dotS a x 0 0 a.length) == W (dotS b x a.length 0 b.length)))
theorem specSolves_eq (a b x : List Int) (ha : a.length ≤ 1048576) (hb : b.length ≤ 1048576) (hx : x.length ≤ 1048576) : callX XV 42 [.d (is a), .d (is b), .d (is x)] [] = some (.d (.bool (solvesB a b x)), []) := by
  rw [z_call XV _ _ _ v42 rfl xcode_42 rfl]
  have hw : IntKind.i64.wrap ((a.length : Int) + b.length) = (a.length : Int) + b.length := wrap_i64 (by omega) (by omega)
  unfold solvesB
  by_cases c : x.length = a.length + b.length
  case neg =>
    have c' : ((x.length : Int) != (a.length : Int) + b.length) = true := by simp; omega
    simp [v42, r42_0, r42_1, r42_2, r42_3, r42_4, r42_6, r42_7, r42_5, r42_8, hw, c, c']
  have c' : ((x.length : Int) != (a.length : Int) + b.length) = false := by simp; omega
  have hloop := loopX_upto (X := XV) (T := []) (L := 0) (live := [0, 1, 2, 7]) (b := b42_0) (n := x.length) (γ := Nat) (st := fun (_ : Unit) i => ⟨[(0, .d (is a)), (1, .d (is b)), (2, .d (is x)), (7, .d (.int .i64 i))], []⟩) (step := stepF (negAt x))
    (F := fun t => (.exit 0, ⟨[(0, .d (is a)), (1, .d (is b)), (2, .d (is x)), (7, .d (.int .i64 x.length)), (19, .d (.bool false))], []⟩)) (R := fun _ => (.ret, ⟨[(6, .d (.bool false))], []⟩))
    (fun _ => ⟨by simp, by simp [b42_0, r42_0, r42_1, r42_2, r42_3, r42_4, r42_6, r42_7, r42_5, r42_8]⟩)
    (fun t i hi => by
      have hw := wrap_succ (n := i) (by omega)
      unfold stepF negAt
      by_cases hn : iAt x i < 0
      · simp only [hn, decide_true, if_true]
        exact ⟨by simp, by simp [b42_0, r42_0, r42_1, r42_2, r42_3, r42_4, r42_6, r42_7, r42_5, r42_8, hi, hw, cut, iAt_lt hi, hn]⟩
      · simp only [hn, decide_false]
        exact ⟨_, by simp [b42_0, r42_0, r42_1, r42_2, r42_3, r42_4, r42_6, r42_7, r42_5, r42_8, hi, hw, cut, iAt_lt hi, hn]; rfl, by simp [xheadOf, safeRegs]⟩)
    x.length () 0 ⟨[(0, .d (is a)), (1, .d (is b)), (2, .d (is x)), (7, .d (.int .i64 0))], []⟩ (by omega) (by simp [xheadOf, safeRegs])
  rw [runF] at hloop
  have t1 : callX XV 48 [.d (is a), .d (is x), .d (.int .i64 0)] [] = some (.d (.int .i64 (W (dotS a x 0 0 a.length))), []) := total_eq a x 0 ha (by omega) (by omega)
  have t2 := total_eq b x a.length hb (by omega) (by omega)
  simp [v42, r42_0, r42_1, r42_2, r42_3, hw, c']
  rw [hloop]
  cases hq : findAt (negAt x) x.length 0 with
  | some j => simp
  | none => simp [v42, r42_0, r42_1, r42_2, r42_3, r42_4, r42_6, r42_7, r42_5, r42_8, t1, t2, c]
theorem neg1_eq (n : Int) : callX XV 46 [.d (.int .i64 n)] [] = some (.d (.bool (decide (n < 0))), []) := by
  rw [z_call XV _ _ _ v46 rfl xcode_46 rfl]
  simp [v46, r46_0, r46_1]
theorem indexNeg_eq (l : List Int) (hl : l.length ≤ 1048576) : callX XV 47 [.d (is l), .fn 46 []] [] = some (.d (.int .i64 (orNeg (findAt (negAt l) l.length 0))), []) := by
  rw [z_call XV _ _ _ v47 rfl xcode_47 rfl]
  have h := loopX_upto (X := XV) (T := XV.lin 47) (L := 0) (live := [0, 1, 7, 8]) (b := b47_0) (n := l.length) (γ := Nat) (st := fun (_ : Unit) i => ⟨[(0, .d (is l)), (1, .fn 46 []), (7, .d (.int .i64 l.length)), (8, .d (.int .i64 i))], []⟩) (step := stepF (negAt l))
    (F := fun _ => (.exit 0, ⟨[(0, .d (is l)), (1, .fn 46 []), (7, .d (.int .i64 l.length)), (8, .d (.int .i64 l.length)), (9, .d (.bool false))], []⟩)) (R := fun (j : Nat) => (.ret, ⟨[(4, .d (.int .i64 j))], []⟩))
    (fun _ => ⟨by simp, by simp [b47_0, r47_0, r47_1, r47_2, r47_3, r47_4, r47_5, r47_6, r47_7]⟩)
    (fun _ i hi => by
      have hw := wrap_succ (n := i) (by omega)
      have hc := neg1_eq (iAt l i)
      unfold stepF negAt
      by_cases hn : iAt l i < 0
      · simp only [hn, decide_true, if_true] at hc ⊢
        exact ⟨by simp, by simp [b47_0, r47_0, r47_1, r47_2, r47_3, r47_4, r47_5, r47_6, r47_7, hi, hw, cut, iAt_lt hi, hc]⟩
      · simp only [hn, decide_false] at hc ⊢
        exact ⟨_, by simp [b47_0, r47_0, r47_1, r47_2, r47_3, r47_4, r47_5, r47_6, r47_7, hi, hw, cut, iAt_lt hi, hc]; rfl, by simp [xheadOf, safeRegs]⟩)
    l.length () 0 ⟨[(0, .d (is l)), (1, .fn 46 []), (7, .d (.int .i64 l.length)), (8, .d (.int .i64 0))], []⟩ (by omega) (by simp [xheadOf, safeRegs])
  rw [runF] at h
  simp only [lin_47] at h
  simp [v47, r47_0, r47_1, r47_2, r47_3, r47_4, r47_5, r47_6, r47_7]
  rw [h]
  cases hq : findAt (negAt l) l.length 0 <;> simp [orNeg, v47, r47_0, r47_1, r47_2, r47_3, r47_4, r47_5, r47_6, r47_7]
theorem containsNeg_eq (l : List Int) (hl : l.length ≤ 1048576) : callX XV 45 [.d (is l), .fn 46 []] [] = some (.d (.bool (!(findAt (negAt l) l.length 0).isNone)), []) := by
  rw [z_call XV _ _ _ v45 rfl xcode_45 rfl]
  have h := indexNeg_eq l hl
  cases hq : findAt (negAt l) l.length 0 with
  | none => rw [hq] at h; simp [v45, r45_0, r45_1, h, orNeg]
  | some j => rw [hq] at h; simp [v45, r45_0, r45_1, h, orNeg]
theorem implSolves_eq (a b x : List Int) (ha : a.length ≤ 1048576) (hb : b.length ≤ 1048576) (hx : x.length ≤ 1048576) : callX XV 43 [.d (is a), .d (is b), .d (is x)] [] = some (.d (.bool (solvesB a b x)), []) := by
  rw [z_call XV _ _ _ v43 rfl xcode_43 rfl]
  have hw : IntKind.i64.wrap ((a.length : Int) + b.length) = (a.length : Int) + b.length := wrap_i64 (by omega) (by omega)
  unfold solvesB
  by_cases c : x.length = a.length + b.length
  case neg =>
    have c' : ((x.length : Int) != (a.length : Int) + b.length) = true := by simp; omega
    simp [v43, r43_0, r43_1, r43_2, r43_3, r43_4, r43_5, r43_6, r43_7, r43_8, r43_9, r43_10, r43_11, r43_12, r43_13, r43_14, hw, c, c']
  have c' : ((x.length : Int) != (a.length : Int) + b.length) = false := by simp; omega
  have hn := containsNeg_eq x hx
  cases hq : findAt (negAt x) x.length 0 with
  | some j =>
    rw [hq] at hn
    simp [v43, r43_0, r43_1, r43_2, r43_3, r43_4, r43_5, r43_6, r43_7, r43_8, r43_9, r43_10, r43_11, r43_12, r43_13, r43_14, hw, c, c', hn]
  | none =>
    rw [hq] at hn
    have l1 := loopX_upto (X := XV) (T := XV.lin 43) (L := 0) (live := [0, 1, 2, 7, 24, 25, 26]) (b := b43_0) (n := a.length) (γ := Unit) (st := fun (t : Int) i => ⟨[(0, .d (is a)), (1, .d (is b)), (2, .d (is x)), (7, .d (.int .i64 t)), (24, .d (is a)), (25, .d (.int .i64 a.length)), (26, .d (.int .i64 i))], []⟩) (step := stepT7 a x 0)
      (F := fun t => (.exit 0, ⟨[(0, .d (is a)), (1, .d (is b)), (2, .d (is x)), (7, .d (.int .i64 t)), (24, .d (is a)), (25, .d (.int .i64 a.length)), (26, .d (.int .i64 a.length)), (27, .d (.bool false))], []⟩)) (R := fun _ => (.ret, ⟨[], []⟩))
      (fun _ => ⟨by simp, by simp [b43_0, r43_0, r43_1, r43_2, r43_3, r43_4, r43_5, r43_6, r43_7, r43_8, r43_9, r43_10, r43_11, r43_12, r43_13, r43_14]⟩)
      (fun t i hi => by
        have hw := wrap_succ (n := i) (by omega)
        have hx2 : i < x.length := by omega
        exact ⟨_, by simp [b43_0, r43_0, r43_1, r43_2, r43_3, r43_4, r43_5, r43_6, r43_7, r43_8, r43_9, r43_10, r43_11, r43_12, r43_13, r43_14, hi, hw, hx2, cut, iAt_lt hi, iAt_lt hx2]; rfl, by simp [xheadOf, safeRegs]⟩)
      a.length 0 0 ⟨[(0, .d (is a)), (1, .d (is b)), (2, .d (is x)), (7, .d (.int .i64 0)), (24, .d (is a)), (25, .d (.int .i64 a.length)), (26, .d (.int .i64 0))], []⟩ (by omega) (by simp [xheadOf, safeRegs])
    have hr := runT7 a x 0 a.length 0 0
    rw [W_zero, Int.zero_add] at hr
    rw [hr] at l1
    have l2 := loopX_upto (X := XV) (T := XV.lin 43) (L := 0) (live := [0, 2, 7, 40, 41, 42]) (b := b43_1) (n := b.length) (γ := Unit) (st := fun (t : Int) i => ⟨[(0, .d (is a)), (2, .d (is x)), (7, .d (.int .i64 t)), (40, .d (is b)), (41, .d (.int .i64 b.length)), (42, .d (.int .i64 i))], []⟩) (step := stepM7 b x a.length)
      (F := fun t => (.exit 2, ⟨[(0, .d (is a)), (2, .d (is x)), (7, .d (.int .i64 t)), (40, .d (is b)), (41, .d (.int .i64 b.length)), (42, .d (.int .i64 b.length)), (43, .d (.bool false))], []⟩)) (R := fun _ => (.ret, ⟨[], []⟩))
      (fun _ => ⟨by simp, by simp [b43_1, r43_0, r43_1, r43_2, r43_3, r43_4, r43_5, r43_6, r43_7, r43_8, r43_9, r43_10, r43_11, r43_12, r43_13, r43_14]⟩)
      (fun t i hi => by
        have hw := wrap_succ (n := i) (by omega)
        have hw2 : IntKind.i64.wrap ((a.length : Int) + i) = (a.length : Int) + i := wrap_i64 (by omega) (by omega)
        have hp : (0 : Int) ≤ (a.length : Int) + i := by omega
        have ht : ((a.length : Int) + i).toNat = a.length + i := by omega
        have hx2 : a.length + i < x.length := by omega
        have hx3 : (a.length : Int) + i < x.length := by omega
        exact ⟨_, by simp [b43_1, r43_0, r43_1, r43_2, r43_3, r43_4, r43_5, r43_6, r43_7, r43_8, r43_9, r43_10, r43_11, r43_12, r43_13, r43_14, hi, hw, hw2, hp, ht, hx2, hx3, cut, iAt_lt hi, iAt_lt hx2]; rfl, by simp [xheadOf, safeRegs]⟩)
      b.length (W (dotS a x 0 0 a.length)) 0 ⟨[(0, .d (is a)), (2, .d (is x)), (7, .d (.int .i64 (W (dotS a x 0 0 a.length)))), (40, .d (is b)), (41, .d (.int .i64 b.length)), (42, .d (.int .i64 0))], []⟩ (by omega) (by simp [xheadOf, safeRegs])
    rw [runM7] at l2
    simp only [lin_43] at l1 l2
    rw [W_beq]
    simp [v43, r43_0, r43_1, r43_2, r43_3, r43_4, hw, c', hn]
    rw [l1]
    simp [v43, r43_0, r43_1, r43_2, r43_3, r43_4, r43_5, r43_6, r43_7, r43_8, r43_9, r43_10, r43_11, r43_12, r43_13, r43_14]
    rw [l2]
    simp [v43, r43_0, r43_1, r43_2, r43_3, r43_4, r43_5, r43_6, r43_7, r43_8, r43_9, r43_10, r43_11, r43_12, r43_13, r43_14, c]
theorem FnExactSolves_x (a : List Int) (ha : a.length ≤ maxLen) (hao : ∀ n, n ∈ a → -9223372036854775808 ≤ n ∧ n ≤ 9223372036854775807) (b : List Int) (hb : b.length ≤ maxLen) (hbo : ∀ n, n ∈ b → -9223372036854775808 ≤ n ∧ n ≤ 9223372036854775807) (x : List Int) (hx : x.length ≤ maxLen) (hxo : ∀ n, n ∈ x → -9223372036854775808 ≤ n ∧ n ≤ 9223372036854775807) :
    ∃ B, callX XV 40 [.d (is a), .d (is b), .d (is x)] [] = some (.d (.bool true), B) := by
  rw [z_call XV _ _ _ v40 rfl xcode_40 rfl]
  by_cases c0 : (a.length : Int) > 1048576
  · simp [v40, r40_0, r40_1, r40_2, r40_3, r40_4, r40_5, r40_6, r40_7, r40_8, r40_9, r40_10, r40_11, r40_12, r40_13, r40_14, r40_15, r40_16, r40_17, r40_18, r40_19, r40_20, c0]
  by_cases c1 : (b.length : Int) > 1048576
  · simp [v40, r40_0, r40_1, r40_2, r40_3, r40_4, r40_5, r40_6, r40_7, r40_8, r40_9, r40_10, r40_11, r40_12, r40_13, r40_14, r40_15, r40_16, r40_17, r40_18, r40_19, r40_20, c0, c1]
  by_cases c2 : (x.length : Int) > 1048576
  · simp [v40, r40_0, r40_1, r40_2, r40_3, r40_4, r40_5, r40_6, r40_7, r40_8, r40_9, r40_10, r40_11, r40_12, r40_13, r40_14, r40_15, r40_16, r40_17, r40_18, r40_19, r40_20, c0, c1, c2]
  have t1 := toIntS_eq a (by omega)
  have t2 := toIntS_eq b (by omega)
  have t3 := toIntS_eq x (by omega)
  have s1 := specSolves_eq a b x (by omega) (by omega) (by omega)
  have s2 := implSolves_eq a b x (by omega) (by omega) (by omega)
  have e1 := eqIntS_self a (by omega)
  have e2 := eqIntS_self b (by omega)
  have e3 := eqIntS_self x (by omega)
  simp [v40, r40_0, r40_1, r40_2, r40_3, r40_4, r40_5, r40_6, r40_7, r40_8, r40_9, r40_10, r40_11, r40_12, r40_13, r40_14, r40_15, r40_16, r40_17, r40_18, r40_19, r40_20, c0, c1, c2, t1, t2, t3, s1, s2, e1, e2, e3]
end Go.Proofs.Ytgdclabfecmmmaa.VS
