/- Contracts of the program's functions on the evaluator without names, and plain lemmas: XNum. -/
import Derived.Test.YtcffalienbbohaaXDigits
import Derived.Test.YtcffalienbbohaaXName
namespace Go.Proofs.Ytcffalienbbohaa.VS
set_option linter.unusedVariables false
set_option linter.unusedSimpArgs false
/-! ## Numbers read from their digits -/
theorem chr_lo (s : ByteArray) (i : Nat) : 0 ≤ chr s i ∧ chr s i ≤ 255 := by
  unfold chr
  cases s[i]? with
  | none => simp
  | some b =>
    have := b.toNat_lt
    simp
    omega
def stepD (s : ByteArray) (v : Int) (i : Nat) : Int ⊕ Unit := if digitB (chr s i) then .inl (10 * v + (chr s i - 48)) else .inr ()
def numR (s : ByteArray) : Int × Bool :=
  if s.size < 1 ∨ 6 < s.size then (0, false) else
    match runN (stepD s) s.size 0 0 with
    | .inl v => if strEq (digits v) s then (v, true) else (0, false)
    | .inr _ => (0, false)
theorem runD (s : ByteArray) : ∀ (k i : Nat) (v w : Int), runN (stepD s) k v i = .inl w → 0 ≤ v → v < 10 ^ i → 0 ≤ w ∧ w < 10 ^ (i + k)
  | 0, i, v, w, h, h0, h1 => by simp only [runN, Sum.inl.injEq] at h; subst h; exact ⟨h0, h1⟩
  | k + 1, i, v, w, h, h0, h1 => by
    simp only [runN, stepD] at h
    have hp2 : (10 : Int) ^ (i + 1) = 10 ^ i * 10 := Int.pow_succ _ _
    by_cases hd : digitB (chr s i)
    · simp only [hd, if_true] at h
      simp [digitB] at hd
      have := runD s k (i + 1) _ w h (by omega) (by omega)
      rwa [show i + 1 + k = i + (k + 1) by omega] at this
    · simp [hd] at h
theorem pow6 {i : Nat} (h : i ≤ 6) : (10 : Int) ^ i ≤ 1000000 := by
  have : i = 0 ∨ i = 1 ∨ i = 2 ∨ i = 3 ∨ i = 4 ∨ i = 5 ∨ i = 6 := by omega
  rcases this with rfl | rfl | rfl | rfl | rfl | rfl | rfl <;> decide
theorem specNumber_eq (s : ByteArray) (hs : s.size ≤ maxLen) : callX XV 36 [.d (.str s)] [] = some (.d (.tup [.int .i64 (numR s).1, .bool (numR s).2]), []) := by
  rw [z_call XV _ _ _ v36 rfl xcode_36 rfl]
  unfold numR
  by_cases c0 : s.size < 1
  · have c0' : (s.size : Int) < 1 := by omega
    simp [v36, r36_0, r36_1, r36_2, r36_3, r36_4, r36_5, r36_7, r36_8, r36_9, r36_6, r36_10, r36_11, r36_12, c0, c0']
  by_cases c1 : 6 < s.size
  · have c1' : (s.size : Int) > 6 := by omega
    have c0' : ¬ (s.size : Int) < 1 := by omega
    simp [v36, r36_0, r36_1, r36_2, r36_3, r36_4, r36_5, r36_7, r36_8, r36_9, r36_6, r36_10, r36_11, r36_12, c0, c0', c1, c1']
  have c1' : ¬ (s.size : Int) > 6 := by omega
  have c0' : ¬ (s.size : Int) < 1 := by omega
  have hl := loopX_inv (X := XV) (T := []) (L := 0) (live := [0, 4, 5]) (b := b36_0) (n := s.size) (γ := Unit) (st := fun (v : Int) i => ⟨[(0, .d (.str s)), (4, .d (.int .i64 v)), (5, .d (.int .i64 i))], []⟩) (step := stepD s)
    (F := fun v => (.exit 0, ⟨[(0, .d (.str s)), (4, .d (.int .i64 v)), (5, .d (.int .i64 s.size)), (17, .d (.bool false))], []⟩)) (R := fun _ => (.ret, ⟨[(2, .d (.int .i64 0)), (3, .d (.bool false))], []⟩))
    (fun v i => 0 ≤ v ∧ v < 10 ^ i)
    (fun v _ => ⟨by simp, by simp [b36_0, r36_5]⟩)
    (fun v i hi hinv => by
      have hp : (10 : Int) ^ i ≤ 1000000 := pow6 (by omega)
      have hp2 : (10 : Int) ^ (i + 1) = 10 ^ i * 10 := Int.pow_succ _ _
      have hw := wrap_succ (n := i) (by omega)
      have hb := byteAt_lt hi
      have hc := chr_lo s i
      unfold stepD
      generalize chr s i = c at *
      by_cases h1 : 48 ≤ c
      · by_cases h2 : c ≤ 57
        · have hd : digitB c = true := by simp [digitB, h1, h2]
          have w1 : IntKind.i64.wrap (10 * v) = 10 * v := wrap_i64 (by omega) (by omega)
          have w2 : IntKind.i64.wrap c = c := wrap_i64 (by omega) (by omega)
          have w3 : IntKind.i64.wrap (10 * v + c) = 10 * v + c := wrap_i64 (by omega) (by omega)
          have w4 : IntKind.i64.wrap (10 * v + c - 48) = 10 * v + (c - 48) := by rw [wrap_i64 (by omega) (by omega)]; omega
          simp only [hd, if_true]
          refine ⟨⟨_, by simp [b36_0, r36_5, r36_6, r36_7, r36_8, r36_9, hi, hb, h1, h2, w1, w2, w3, w4, hw, show ¬ c < 48 by omega, show ¬ c > 57 by omega]; rfl, by simp [xheadOf, safeRegs]⟩, fun a' h => by simp at h; subst h; omega⟩
        · have hd : digitB c = false := by simp [digitB, h1]; omega
          simp only [hd]
          refine ⟨⟨by simp, ?_⟩, fun a' h => by simp at h⟩
          simp [b36_0, r36_5, r36_6, r36_7, r36_8, r36_9, hi, hb, show ¬ c < 48 by omega, show c > 57 by omega]
      · have hd : digitB c = false := by simp [digitB]; omega
        simp only [hd]
        refine ⟨⟨by simp, ?_⟩, fun a' h => by simp at h⟩
        simp [b36_0, r36_5, r36_6, r36_7, r36_8, r36_9, hi, hb, show c < 48 by omega])
    s.size 0 0 ⟨[(0, .d (.str s)), (4, .d (.int .i64 0)), (5, .d (.int .i64 0))], []⟩ (by omega) ⟨by omega, by simp⟩ (by simp [xheadOf, safeRegs])
  simp [v36, r36_0, r36_1, r36_2, r36_3, r36_4, c0, c0', c1, c1']
  rw [hl]
  cases hrun : runN (stepD s) s.size 0 0 with
  | inr u => simp
  | inl v =>
    have hv := runD s _ _ _ _ hrun (by omega) (by simp)
    have hp : (10 : Int) ^ (0 + s.size) ≤ 1000000 := pow6 (by omega)
    have hd := specDigits_eq v (by omega) (by omega)
    cases he : strEq (digits v) s <;> simp [r36_10, r36_11, r36_12, hd, he]
theorem toList_loop (s : ByteArray) : ∀ (k i : Nat) (r : List UInt8), s.size - i = k → (ByteArray.toList.loop s i r).length = r.length + k
  | 0, i, r, h => by rw [ByteArray.toList.loop, if_neg (by omega)]; simp
  | k + 1, i, r, h => by
    rw [ByteArray.toList.loop, if_pos (by omega), toList_loop s k (i + 1) _ (by omega)]
    simp; omega
theorem strEq_empty (s : ByteArray) : strEq s ⟨#[]⟩ = decide (s.size < 1) := by
  have h := toList_loop s s.size 0 [] (by omega)
  have h2 := toList_loop ⟨#[]⟩ 0 0 [] rfl
  change s.toList.length = _ at h
  change (ByteArray.toList ⟨#[]⟩).length = _ at h2
  have h3 : ByteArray.toList ⟨#[]⟩ = [] := List.length_eq_zero_iff.1 (by simp)
  unfold strEq
  rw [h3]
  cases hs : s.toList with
  | nil => rw [hs] at h; have : s.size = 0 := by simpa using h.symm
           rw [this]; rfl
  | cons x r => rw [hs] at h; have : 0 < s.size := by simp at h; omega
                have h4 : ¬ s.size < 1 := by omega
                rw [decide_eq_false h4]; rfl
theorem implNumber_eq (s : ByteArray) (hs : s.size ≤ maxLen) : callX XV 37 [.d (.str s)] [] = some (.d (.tup [.int .i64 (numR s).1, .bool (numR s).2]), []) := by
  rw [z_call XV _ _ _ v37 rfl xcode_37 rfl]
  unfold numR
  have he := strEq_empty s
  by_cases c0 : s.size < 1
  · have c0' : (s.size : Int) < 1 := by omega
    simp [v37, r37_0, r37_1, r37_2, r37_3, r37_4, r37_5, r37_6, r37_7, r37_8, r37_9, r37_10, r37_11, r37_12, r37_13, he, c0, c0']
  by_cases c1 : 6 < s.size
  · have c1' : (s.size : Int) > 6 := by omega
    have c0' : ¬ (s.size : Int) < 1 := by omega
    simp [v37, r37_0, r37_1, r37_2, r37_3, r37_4, r37_5, r37_6, r37_7, r37_8, r37_9, r37_10, r37_11, r37_12, r37_13, he, c0, c0', c1, c1']
  have c1' : ¬ (s.size : Int) > 6 := by omega
  have c0' : ¬ (s.size : Int) < 1 := by omega
  have hl := loopX_inv (X := XV) (T := []) (L := 0) (live := [0, 4, 14, 15]) (b := b37_0) (n := s.size) (γ := Unit) (st := fun (v : Int) i => ⟨[(0, .d (.str s)), (4, .d (.int .i64 v)), (14, .d (.int .i64 s.size)), (15, .d (.int .i64 i))], []⟩) (step := stepD s)
    (F := fun v => (.exit 0, ⟨[(0, .d (.str s)), (4, .d (.int .i64 v)), (14, .d (.int .i64 s.size)), (15, .d (.int .i64 s.size)), (16, .d (.bool false))], []⟩)) (R := fun _ => (.ret, ⟨[(2, .d (.int .i64 0)), (3, .d (.bool false))], []⟩))
    (fun v i => 0 ≤ v ∧ v < 10 ^ i)
    (fun v _ => ⟨by simp, by simp [b37_0, r37_5]⟩)
    (fun v i hi hinv => by
      have hp : (10 : Int) ^ i ≤ 1000000 := pow6 (by omega)
      have hp2 : (10 : Int) ^ (i + 1) = 10 ^ i * 10 := Int.pow_succ _ _
      have hw := wrap_succ (n := i) (by omega)
      have hb := byteAt_lt hi
      have hc := chr_lo s i
      unfold stepD
      generalize chr s i = c at *
      by_cases h1 : 48 ≤ c
      · by_cases h2 : c ≤ 57
        · have hd : digitB c = true := by simp [digitB, h1, h2]
          have w1 : IntKind.i64.wrap (10 * v) = 10 * v := wrap_i64 (by omega) (by omega)
          have w2 : IntKind.i64.wrap (c - 48) = c - 48 := wrap_i64 (by omega) (by omega)
          have w0 : IntKind.u8.wrap (c - 48) = c - 48 := wrap_u8' (by omega) (by omega)
          have w3 : IntKind.i64.wrap (10 * v + (c - 48)) = 10 * v + (c - 48) := wrap_i64 (by omega) (by omega)
          simp only [hd, if_true]
          refine ⟨⟨_, by simp [b37_0, r37_5, r37_6, r37_7, r37_8, r37_9, r37_10, hi, hb, h1, h2, w0, w1, w2, w3, hw, show ¬ c < 48 by omega, show ¬ c > 57 by omega]; rfl, by simp [xheadOf, safeRegs]⟩, fun a' h => by simp at h; subst h; omega⟩
        · have hd : digitB c = false := by simp [digitB, h1]; omega
          simp only [hd]
          refine ⟨⟨by simp, ?_⟩, fun a' h => by simp at h⟩
          simp [b37_0, r37_5, r37_6, r37_7, r37_8, r37_9, r37_10, hi, hb, show ¬ c < 48 by omega, show c > 57 by omega]
      · have hd : digitB c = false := by simp [digitB]; omega
        simp only [hd]
        refine ⟨⟨by simp, ?_⟩, fun a' h => by simp at h⟩
        simp [b37_0, r37_5, r37_6, r37_7, r37_8, r37_9, r37_10, hi, hb, show c < 48 by omega])
    s.size 0 0 ⟨[(0, .d (.str s)), (4, .d (.int .i64 0)), (14, .d (.int .i64 s.size)), (15, .d (.int .i64 0))], []⟩ (by omega) ⟨by omega, by simp⟩ (by simp [xheadOf, safeRegs])
  simp [v37, r37_0, r37_1, r37_2, r37_3, r37_4, he, c0, c0', c1, c1']
  rw [hl]
  cases hrun : runN (stepD s) s.size 0 0 with
  | inr u => simp
  | inl v =>
    have hv := runD s _ _ _ _ hrun (by omega) (by simp)
    have hp : (10 : Int) ^ (0 + s.size) ≤ 1000000 := pow6 (by omega)
    have hd := implDigits_eq v (by omega) (by omega)
    cases he : strEq (digits v) s <;> simp [r37_11, r37_12, r37_13, hd, he]
end Go.Proofs.Ytcffalienbbohaa.VS
